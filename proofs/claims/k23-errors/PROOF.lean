import PyProof.Rows.All
import Wide.All
import OpenK.AllK
import Wide.FinOn
import HandS.ForMost
import HandS.Exc
import HandS.WordsExc
import HandS.TryMany
import HandS.ExcInit
import HandS.ExcField
import HandS.Defaults
import HandS.IsInst
import HandS.OwnEq
import HandS.DictComp
import HandS.SetKeys
import HandS.Walk
import HandS.Flow
import HandS.Conv
import HandS.TupAny
import HandS.Zip
import HandS.Style
import HandS.HeadHook1
import HandS.HeadHook2
import HandS.HeadHook3
import HandS.HeadHook4
import KE.GoesNew
import KE.GoesEnum
import HandS.ExcIs
import HandS.SetBool
import HandS.SetFor
import HandS.SetTxt0
import PyProof.Rows.SortShellAny
import HandS.Property
import KE.KOpsOwn
import PyProof.InstNe
import KE.KStateDown
import HandS.Head0
import HandS.Head1
import HandS.Head2
import HandS.HeadEnd
import KE.KDictList
import KE.KDictSum
import PyProof.TupleOfGen
import KE.KDictZip
import KE.GoesMore
import HandS.TupSets
import HandS.Deep
import KE.KeyNested
import KE.KDictCopyH
import HandS.Small
import KE.KDictWalk
import HandS.RaiseMore
import PyProof.StrOps2
import HandS.HotCalls
import HandS.ExcInitHot
import PySem.Challenge.RW_readmoments_k23_errors_are_apart
set_option Elab.async false
set_option linter.all false
set_option maxRecDepth 100000
set_option maxHeartbeats 2000000
namespace RM
open PySem PySem.Spec PyProof.Rows L2

/-! ### calls by promise -/
section
variable (P : Program) (w : World) (K : PySem.W.Frag) (mg : Str → Option Value) (base : Heap) (CX : CXT)
/-- a def by its global name -/
def Cal (k : Nat) (x : Str) (sp : Sp) : Prop :=
  ∃ (f : Addr) (fd : FuncData) (ps : List Str), FnOk P w K mg base CX k f fd ps sp ∧ mg x = some (.ref f) ∧ PySem.W.keepIn K (.ref f) = true ∧ Binds K fd ps []
/-- the class at C: its method m -/
def Met (k : Nat) (C : Addr) (m : Str) (sp : Sp) : Prop :=
  ∃ (f : Addr) (fd : FuncData) (ps : List Str), Cls K C ∧ Meth K C m f ∧ FnOk P w K mg base CX k f fd ps sp ∧ Binds K fd ps []
/-- a class that is made by its name; sp: its __init__ -/
def Mak (k : Nat) (x : Str) (C : Addr) (sp : Sp) : Prop :=
  ∃ (f : Addr) (fd : FuncData) (ps : List Str), Mk K C f ∧ FnOk P w K mg base CX k f fd ps sp ∧ mg x = some (.ref C) ∧ Binds K fd ps []
end
section
variable {P : Program} {w : World} {K : PySem.W.Frag} {mg : Str → Option Value} {base : Heap} {CX : CXT} {k : Nat} {x m : Str} {C : Addr} {sp : Sp}
theorem Cal.mono {j : Nat} (c : Cal P w K mg base CX j x sp) (h : j ≤ k) : Cal P w K mg base CX k x sp := let ⟨f, fd, ps, F, a, b, d⟩ := c; ⟨f, fd, ps, F.mono h, a, b, d⟩
theorem Met.mono {j : Nat} (c : Met P w K mg base CX j C m sp) (h : j ≤ k) : Met P w K mg base CX k C m sp := let ⟨f, fd, ps, a, b, F, d⟩ := c; ⟨f, fd, ps, a, b, F.mono h, d⟩
theorem Mak.mono {j : Nat} (c : Mak P w K mg base CX j x C sp) (h : j ≤ k) : Mak P w K mg base CX k x C sp := let ⟨f, fd, ps, a, F, b, d⟩ := c; ⟨f, fd, ps, a, F.mono h, b, d⟩
theorem Cal.imp {sp' : Sp} (c : Cal P w K mg base CX k x sp) (h : ∀ vs H Q E, sp' vs H Q E → sp vs H Q E) : Cal P w K mg base CX k x sp' := let ⟨f, fd, ps, F, a, b, d⟩ := c; ⟨f, fd, ps, F.imp h, a, b, d⟩
theorem Met.imp {sp' : Sp} (c : Met P w K mg base CX k C m sp) (h : ∀ vs H Q E, sp' vs H Q E → sp vs H Q E) : Met P w K mg base CX k C m sp' := let ⟨f, fd, ps, a, b, F, d⟩ := c; ⟨f, fd, ps, a, b, F.imp h, d⟩
/-- nothing leaves by an error: the body's form -/
def Body0 (P : Program) (w : World) (K : PySem.W.Frag) (mg : Str → Option Value) (base : Heap) (N : List Str) (qual : Str) (st : Stmt) (f : Addr) (k : Nat) (sp : Sp) : Prop :=
  ∀ (cdv : Value) (A : Around) (outer : List Env) (s : Shared) (H : Hp) (vs : List V) (Q : VK) (E : XK), Room k (A.deeper (envOfC qual (defScope st) s.heap.objs.size f cdv)) → sp vs H Q E →
    ∃ t, PSs (cxOf CX0 P w K mg base N qual (defScope st) f cdv A outer s H E).nox (defBody st) t ∧ t { nx := fun _ H' => Q .non H', rt := Q } (start N vs) H
theorem fn_0 {qual : Str} {st : Stmt} {f : Addr} {fd : FuncData} {N ps : List Str} (F : FunD K x qual (defArgs st) (defBody st) (defScope st) [] [] f fd) (S : FnScope N ps (defScope st))
    (len : ∀ vs H Q E, sp vs H Q E → vs.length = ps.length) (h : Body0 P w K mg base N qual st f k sp) : FnOk P w K mg base CX0 (k + 1) f fd ps sp :=
  F.ok S len fun cdv A outer s H vs Q E hr hsp => let ⟨t, a, b⟩ := h cdv A outer s H vs Q E hr hsp; ⟨t, a.nox, b⟩
theorem cal_0 {st : Stmt} {f : Addr} {N ps : List Str} (F : ∃ fd, FunD K x x (defArgs st) (defBody st) (defScope st) [] [] f fd) (hm : mg x = some (.ref f)) (S : FnScope N ps (defScope st))
    (hb : ∀ (kV doc pm : Value) (an : Option Addr) (cdv ct : Value) (us : List Value), us.length = ps.length → bindArgs (PySem.W.fnOf x x (defArgs st) (defBody st) (defScope st) .none kV doc pm an cdv ct) ⟨us, []⟩ = pure (ps.zip us))
    (len : ∀ vs H Q E, sp vs H Q E → vs.length = ps.length) (h : Body0 P w K mg base N x st f k sp) : Cal P w K mg base CX0 (k + 1) x sp :=
  let ⟨fd, F⟩ := F
  ⟨f, fd, ps, fn_0 F S len h, hm, F.kp, F.bindsN hb⟩
theorem cal_never {x : Str} {st : Stmt} {f : Addr} {ps : List Str} {sp : Sp} {k : Nat} (F : ∃ fd, FunD K x x (defArgs st) (defBody st) (defScope st) [] [] f fd) (hm : mg x = some (.ref f))
    (hb : ∀ (kV doc pm : Value) (an : Option Addr) (cdv ct : Value) (us : List Value), us.length = ps.length → bindArgs (PySem.W.fnOf x x (defArgs st) (defBody st) (defScope st) .none kV doc pm an cdv ct) ⟨us, []⟩ = pure (ps.zip us))
    (no : ∀ vs H Q E, ¬ sp vs H Q E) : Cal P w K mg base CX0 k x sp :=
  let ⟨fd, F⟩ := F
  ⟨f, fd, ps, ⟨fun vs H Q E h => absurd h (no vs H Q E), fun A outer s H args us vs Q E _ _ _ _ h => absurd h (no vs H Q E)⟩, hm, F.kp, F.bindsN hb⟩
theorem met_0 {qual : Str} {st : Stmt} {f : Addr} {N ps : List Str} (F : ∃ fd, FunD K m qual (defArgs st) (defBody st) (defScope st) [] [] f fd) (c : Cls K C) (me : Meth K C m f) (S : FnScope N ps (defScope st))
    (hb : ∀ (kV doc pm : Value) (an : Option Addr) (cdv ct : Value) (us : List Value), us.length = ps.length → bindArgs (PySem.W.fnOf m qual (defArgs st) (defBody st) (defScope st) .none kV doc pm an cdv ct) ⟨us, []⟩ = pure (ps.zip us))
    (len : ∀ vs H Q E, sp vs H Q E → vs.length = ps.length) (h : Body0 P w K mg base N qual st f k sp) : Met P w K mg base CX0 (k + 1) C m sp :=
  let ⟨fd, F⟩ := F
  ⟨f, fd, ps, c, me, fn_0 F S len h, F.bindsN hb⟩
theorem mak_0 {qual : Str} {st : Stmt} {f : Addr} {N ps : List Str} (F : ∃ fd, FunD K "__init__" qual (defArgs st) (defBody st) (defScope st) [] [] f fd) (M : Mk K C f) (hm : mg x = some (.ref C)) (S : FnScope N ps (defScope st))
    (hb : ∀ (kV doc pm : Value) (an : Option Addr) (cdv ct : Value) (us : List Value), us.length = ps.length → bindArgs (PySem.W.fnOf "__init__" qual (defArgs st) (defBody st) (defScope st) .none kV doc pm an cdv ct) ⟨us, []⟩ = pure (ps.zip us))
    (len : ∀ vs H Q E, sp vs H Q E → vs.length = ps.length) (h : Body0 P w K mg base N qual st f k sp) : Mak P w K mg base CX0 (k + 1) x C sp :=
  let ⟨fd, F⟩ := F
  ⟨f, fd, ps, M, fn_0 F S len h, hm, F.bindsN hb⟩
end
section
variable {X : Cx} {CX : CXT} {k j : Nat} {C : Addr} {x m : Str} {sp : Sp} {E : XK} {p pos apos : Pos} {e o : Expr} {es : List Expr} {ta : TE} {t : TA}
theorem pc (c : Cal X.prog X.w X.K X.mg X.base CX0 k x sp) (hr : Room j X.A) (ha : PA X (e :: es) t) (hk : k ≤ j := by omega) (hg : Gl X x := by rfl)
    (hpl : (backTo pos (starEach es X.env)).any (·.1) = false := by rfl) (he : starEach (e :: es) X.env = (false, eval e X.env) :: starEach es X.env := by rfl) (hdb : (x == ("__debug__" : Str)) = false := by decide) :
    PE X (.Call (.Name x p) (e :: es) [] pos) (tCall sp [] E0 t) := by
  obtain ⟨f, fd, ps, F, hm, kp, b⟩ := c
  exact pe_call F (hr.mono hk) hg hm kp b .nil pass0 ha hdb he hpl
theorem pc0 (c : Cal X.prog X.w X.K X.mg X.base CX0 k x sp) (hr : Room j X.A) (hk : k ≤ j := by omega) (hg : Gl X x := by rfl)
    (hdb : (x == ("__debug__" : Str)) = false := by decide) :
    PE X (.Call (.Name x p) [] [] pos) (tCall sp [] E0 tNil) := by
  obtain ⟨f, fd, ps, F, hm, kp, b⟩ := c
  exact pe_call0 F (hr.mono hk) hg hm kp b .nil pass0 hdb
theorem pmk (c : Mak X.prog X.w X.K X.mg X.base CX0 k x C sp) (hr : Room j X.A) (ha : PA X (e :: es) t) (hk : k + 1 ≤ j := by omega) (hg : Gl X x := by rfl)
    (hpl : (backTo pos (starEach es X.env)).any (·.1) = false := by rfl) (he : starEach (e :: es) X.env = (false, eval e X.env) :: starEach es X.env := by rfl) (hdb : (x == ("__debug__" : Str)) = false := by decide) :
    PE X (.Call (.Name x p) (e :: es) [] pos) (tMake C sp [] E0 t) := by
  obtain ⟨f, fd, ps, M, F, hm, b⟩ := c
  exact pe_make M F (hr.mono hk) hg hm b .nil pass0 ha hdb he hpl
theorem pmt {pl : Sem Bool} (c : Met X.prog X.w X.K X.mg X.base CX0 k C m sp) (hr : Room j X.A) (he : PE X o ta) (ha : PA X (e :: es) t) (hk : k ≤ j := by omega)
    (hst : starEach (e :: es) X.env = (false, eval e X.env) :: starEach es X.env := by rfl) (hpl : (backTo pos (starEach es X.env)).any (·.1) = false := by rfl)
    (ht : eval (.Call (.Attribute o m apos) (e :: es) [] pos) X.env = (do
      let ov ← eval o X.env
      standAt apos.atName
      let (f, first) ← holding [ov] (getMethod ov m pl)
      callWith pos f first (backTo pos (starEach (e :: es) X.env)) (backToKw pos (keywordEach [] X.env))) := by rfl) :
    PE X (.Call (.Attribute o m apos) (e :: es) [] pos) (tMeth C m sp [] E0 ta t) := by
  obtain ⟨f, fd, ps, hc, hm, F, b⟩ := c
  exact pe_meth (pl := pl) he hc hm F (hr.mono hk) b .nil pass0 ha hst hpl ht
theorem pmt0 {pl : Sem Bool} (c : Met X.prog X.w X.K X.mg X.base CX0 k C m sp) (hr : Room j X.A) (he : PE X o ta) (hk : k ≤ j := by omega)
    (ht : eval (.Call (.Attribute o m apos) [] [] pos) X.env = (do
      let ov ← eval o X.env
      standAt apos.atName
      let (f, first) ← holding [ov] (getMethod ov m pl)
      callWith pos f first (backTo pos (starEach [] X.env)) (backToKw pos (keywordEach [] X.env))) := by rfl) :
    PE X (.Call (.Attribute o m apos) [] [] pos) (tMeth C m sp [] E0 ta tNil) := by
  obtain ⟨f, fd, ps, hc, hm, F, b⟩ := c
  exact pe_meth0 (pl := pl) he hc hm F (hr.mono hk) b .nil pass0 ht
/-- a module's constant, told by what mg says -/
theorem pgl {v : V} {u : Value} (hm : X.mg x = some u) (r : RelV v u) (hg : Gl X x := by rfl) (hd : (x == ("__debug__" : Str)) = false := by decide) : PE X (.Name x p) (tC v) := pe_glob hg hm r hd
theorem pglR {a : Addr} (hm : X.mg x = some (.ref a)) (hg : Gl X x := by rfl) (hd : (x == ("__debug__" : Str)) = false := by decide) : PE X (.Name x p) (tC (.ref a)) := pe_glob hg hm rfl hd
theorem pglI {i : Int} (hm : ∃ t, X.mg x = some (.int i t)) (hg : Gl X x := by rfl) (hd : (x == ("__debug__" : Str)) = false := by decide) : PE X (.Name x p) (tC (.int i)) := let ⟨t, h⟩ := hm; pe_glob hg h ⟨t, rfl⟩ hd
theorem pglS {z : Str} (hm : ∃ t, X.mg x = some (.str z t)) (hg : Gl X x := by rfl) (hd : (x == ("__debug__" : Str)) = false := by decide) : PE X (.Name x p) (tC (.str z)) := let ⟨t, h⟩ := hm; pe_glob hg h ⟨t, rfl⟩ hd
/-- a built-in class as a value -/
theorem pty {n : String} (hm : X.mg x = none) (hv : bootBuiltins x = some (.type n)) (hg : Gl X x := by rfl) (hn : x ≠ "__name__" := by decide) (hd : (x == ("__debug__" : Str)) = false := by decide) : PE X (.Name x p) (tC (.ty n)) := pe_bltn hg hm hv rfl hn hd
/-- a built-in function, a built-in class, called -/
theorem pcb {id : String} {r : List V → Hp → VK → Prop} (hm : X.mg x = none) (hc : CallR X (.builtin id) r) (hv : bootBuiltins x = some (.builtin id)) (ha : PA X (e :: es) t) (hg : Gl X x := by rfl) (hn : x ≠ "__name__" := by decide) (hdb : (x == ("__debug__" : Str)) = false := by decide)
    (he : starEach (e :: es) X.env = (false, eval e X.env) :: starEach es X.env := by rfl) (hpl : (backTo pos (starEach es X.env)).any (·.1) = false := by rfl) : PE X (.Call (.Name x p) (e :: es) [] pos) (tCB r t) := pe_callB hc hg hm hv ha hn hdb he hpl
theorem pct {T : String} {r : List V → Hp → VK → Prop} (hm : X.mg x = none) (hc : CallR X (.type T) r) (hv : bootBuiltins x = some (.type T)) (ha : PA X (e :: es) t) (hg : Gl X x := by rfl) (hn : x ≠ "__name__" := by decide) (hdb : (x == ("__debug__" : Str)) = false := by decide)
    (he : starEach (e :: es) X.env = (false, eval e X.env) :: starEach es X.env := by rfl) (hpl : (backTo pos (starEach es X.env)).any (·.1) = false := by rfl) : PE X (.Call (.Name x p) (e :: es) [] pos) (tCB r t) := pe_callTy hc hg hm hv ha hn hdb he hpl
end
/-! ### the rules whose readings name the written part: K told apart (for a comprehension's block) -/
section
variable {X : Cx} {K : PySem.W.Frag} {e o : Expr} {es : List Expr} {ta : TE} {t : TA} {pos : Pos}
theorem pg_tup' {k : Nat} {t : TGs} {n : Nat} (hK : X.K = K) (hc : X.calm = true) (h : PGs X es t)
    (hn : (assignEach es X.env).length = n) (hst : (assignEach es X.env).findIdx? (·.1) = none) : PG X (.Tuple es k pos) (gTup K n t) := by
  subst hK
  exact pg_tup hc h hn hst
theorem ix_tup' (hK : X.K = K) : IxR X (rIxT K) := by subst hK; exact ix_tup
theorem ix_list' (hK : X.K = K) : IxR X (rIxL K) := by subst hK; exact ix_list
theorem call_isi' (hK : X.K = K) : CallR X (.builtin "isinstance") (rIsi K) := by subst hK; exact call_isi
theorem call_isiT' (hK : X.K = K) : CallR X (.builtin "isinstance") (rIsiT K) := by subst hK; exact call_isiT
theorem call_len_seq' (hK : X.K = K) : CallR X (.builtin "len") (fun xs H Q => ∃ p ys, xs = [.ref p] ∧ (SqL K H p ys ∨ SqT K H p ys) ∧ Q (.int ys.length) H) := by subst hK; exact call_len_seq
theorem ix_kdict' {w : World} (hK : X.K = K) (hw : X.w = w) : IxR X (rIxD K w) := by subst hK hw; exact ix_kdict
theorem pe_fld' {f : Str} (hK : X.K = K) (he : PE X e ta) (hb : attributeBase e f X.env (eval e X.env) = eval e X.env) : PE X (.Attribute e f pos) (tFld K ta f) := by subst hK; exact pe_fld he hb
end
/-! ### places -/
theorem at0 {v : V} {xs : List V} : atI (v :: xs) 0 = some v := atI_nat (j := 0) rfl
theorem at1 {a v : V} {xs : List V} : atI (a :: v :: xs) 1 = some v := atI_nat (j := 1) rfl
theorem at2 {a b v : V} {xs : List V} : atI (a :: b :: v :: xs) 2 = some v := atI_nat (j := 2) rfl
theorem at3 {a b c v : V} {xs : List V} : atI (a :: b :: c :: v :: xs) 3 = some v := atI_nat (j := 3) rfl
theorem at4 {a b c d v : V} {xs : List V} : atI (a :: b :: c :: d :: v :: xs) 4 = some v := atI_nat (j := 4) rfl
theorem yesI {σ : L2.St} {H : Hp} {X Y : Hp → Prop} (h : X H) : tYes σ H (fun b H3 => if b = true then X H3 else Y H3) := by
  show if true = true then X H else Y H
  rw [if_pos rfl]
  exact h
/-! ### ifs -/
theorem ifT {c : Bool} {A B : Prop} (hc : c = true) (h : A) : if c = true then A else B := by
  rw [if_pos hc]
  exact h
theorem ifF {c : Bool} {A B : Prop} (hc : c = false) (h : B) : if c = true then A else B := by
  rw [hc, if_neg Bool.false_ne_true]
  exact h
theorem qT {Q : VK} {c : Bool} {H : Hp} (h : c = true) (q : Q (.bl true) H) : Q (.bl c) H := by rw [h]; exact q
theorem qF {Q : VK} {c : Bool} {H : Hp} (h : c = false) (q : Q (.bl false) H) : Q (.bl c) H := by rw [h]; exact q
theorem ifB {c : Bool} {A B : Prop} (h1 : c = true → A) (h2 : c = false → B) : if c = true then A else B := by
  cases c with
  | true => exact ifT rfl (h1 rfl)
  | false => exact ifF rfl (h2 rfl)
/-! ### what a head tells beside the listed facts -/
/-- an own class whose instances isinstance reads -/
def insB (K : PySem.W.Frag) (x : Str) : Bool := He.eqO (PySem.W.findIn K (.ref (He.ga K x)) "__class__") (some (some (.builtin "object.__class__"))) &&
  (He.eqO (PySem.W.specialIn K (.builtin "object.__class__") "__get__") (some (some (.builtin "getset_descriptor.__get__"))) && (decide (PySem.W.takesIn K (.builtin "object.__class__") = some true) &&
    decide (PySem.W.mroIn K (He.ga K x) (.type "object") = some true)))
theorem insB_ty {K : PySem.W.Frag} {H : Hp} {x : Str} (h : insB K x = true) (cl : Cls K (He.ga K x)) {a dx : Addr} {fs : List (Str × V)} (e : H a = some (.ins (He.ga K x) dx fs)) : TyOf K H (.ref a) (.ref (He.ga K x)) := by
  obtain ⟨h1, h⟩ := He.ba h
  obtain ⟨h2, h⟩ := He.ba h
  obtain ⟨h3, h4⟩ := He.ba h
  exact .ins e cl (He.eqO_ok h1) (He.eqO_ok h2) (of_decide_eq_true h3) (of_decide_eq_true h4)
/-- isinstance between two own classes -/
def kitC (K : PySem.W.Frag) (x y : Str) (b : Bool) : Bool := decide (PySem.W.kitOne K (.ref (He.ga K x)) (.ref (He.ga K y)) = some b)
theorem kitC_ok {K : PySem.W.Frag} {x y : Str} {b : Bool} (h : kitC K x y b = true) : PySem.W.kitOne K (.ref (He.ga K x)) (.ref (He.ga K y)) = some b := of_decide_eq_true h
/-- a special method of an own class is its def -/
def spcB (K : PySem.W.Frag) (x m : Str) : Bool := He.eqO (PySem.W.findIn K (.ref (He.ga K x)) m) (some (some (.ref (He.ma K (He.ga K x) m)))) && PySem.W.isFn K (.ref (He.ma K (He.ga K x) m))
theorem spcB_ok {K : PySem.W.Frag} {x m : Str} (h : spcB K x m = true) : PySem.W.findIn K (.ref (He.ga K x)) m = some (some (.ref (He.ma K (He.ga K x) m))) ∧ PySem.W.isFn K (.ref (He.ma K (He.ga K x) m)) = true :=
  let ⟨a, b⟩ := He.ba h; ⟨He.eqO_ok a, b⟩
/-! ### isinstance -/
theorem isi_ty {K : PySem.W.Frag} {H : Hp} {Q : VK} {x : V} {t n : String} {b : Bool} (ty : TyX K H x (.type t)) (q : Q (.bl b) H) (e : kitB t n = some b := by decide +kernel) : rIsi K [x, .ty n] H Q :=
  ⟨x, .ty n, .type t, .type n, b, rfl, .ty n, ty, kit_ty e, q⟩
/-! ### a statement told by what holds behind it -/
def tMid (t : TS) : TS := fun D σ H => ∃ M : L2.St → Hp → Prop, t { D with nx := M } σ H ∧ ∀ σ' H', M σ' H' → D.nx σ' H'
theorem ps_mid {X : Cx} {st : Stmt} {t : TS} (h : PS X st t) : PS X st (tMid t) := by
  constructor
  rintro pins s σ H D I ⟨M, a, b⟩
  refine wpAny_mono (h.run pins s σ H _ I a) (fun f s' z => ?_) fun _ _ z => z
  cases f with
  | next =>
    obtain ⟨σ', H', I', m⟩ := z
    exact ⟨σ', H', I', b σ' H' m⟩
  | ret v => exact z
  | brk => exact z
  | cont => exact z
end RM

set_option Elab.async false
set_option linter.all false
/-! sequences of either kind: for x in v -/
namespace RM
open PySem PySem.Spec
open PyProof.Rows
open L2
/-- what is laid behind the last address is no one's -/
theorem late {X : Cx} {pins : List (Addr × Obj)} {σ : L2.St} {H : Hp} {s : Shared} (inv : Inv X pins σ H s) : ∀ b ∈ [s.heap.objs.size], FpOk X pins H b := by
  intro b hb
  obtain rfl := List.mem_singleton.mp hb
  exact inv.fpOk (Nat.le_refl _) (inv.hok.fresh (Nat.le_refl _))
@[irreducible] def SeqG (K : PySem.W.Frag) (x : V) (H1 : Hp) (R : It → Hp → Prop) : Prop :=
  ∃ a, x = .ref a ∧ ((∃ xs, SqL K H1 a xs ∧ R (Itl K a) H1) ∨ (∃ xs, SqT K H1 a xs ∧ R (Itt K a) H1))
def iSeqA (K : PySem.W.Frag) (tl : TE) : TI := fun σ H R => tl σ H fun x H1 => SeqG K x H1 R
theorem pi_seqA {X : Cx} {tg l : Expr} {tl : TE} (hl : PE X l tl) : PI X tg l (iSeqA X.K tl) := by
  constructor
  intro pins s σ H R inv pre
  refine thn (hl.run pins s σ H _ inv pre) ?_
  rintro v s1 ⟨x, H1, inv1, rel, post⟩
  rw [show SeqG X.K x H1 R = (∃ a, x = .ref a ∧ ((∃ xs, SqL X.K H1 a xs ∧ R (Itl X.K a) H1) ∨ (∃ xs, SqT X.K H1 a xs ∧ R (Itt X.K a) H1))) by unfold SeqG; rfl] at post
  obtain ⟨a, rfl, ⟨xs, sq, r⟩ | ⟨xs, sq, r⟩⟩ := post
  · obtain rfl : v = .ref a := rel
    obtain ⟨its, _, at_, _⟩ := inv1.list sq
    exact wpAny_pyIter_list at_.isList ⟨_, _, _, _, _, rfl, inv1.kept (t' := s1.toks) fun _ _ e => Heap.get?_push_of_some _ e, turn_list a _, ⟨_, Heap.get?_push_size _ rfl, rfl, rfl⟩, late inv1, r⟩
  · obtain rfl : v = .ref a := rel
    obtain ⟨its, _, at_, _⟩ := inv1.tuple sq
    exact wpAny_pyIter_tuple (items := its.toArray) at_ ⟨_, _, _, _, _, rfl, inv1.kept (t' := s1.toks) fun _ _ e => Heap.get?_push_of_some _ e, turn_tuple a _, ⟨_, Heap.get?_push_size _ rfl, rfl, rfl⟩, late inv1, r⟩
end RM

set_option Elab.async false
set_option linter.all false
set_option maxRecDepth 100000
/-! enumerate(a tuple): how it is made -/
namespace RM
open PySem PySem.Spec
open PyProof.Rows
open L2
abbrev tupIt (a : Addr) : Obj := { cls := .type "tuple_iterator", data := .fields #[.ref a, .int 0 0] }
abbrev enOb (e : Addr) : Obj := { cls := .type "enumerate", data := .fields #[.none, .bool false, .ref e, rawInt 0, .none, .none] }
theorem made_enum (a : Addr) (its : Array Value) : Meets (Builtin.«enumerate.__new__» ⟨[.type "enumerate", .ref a], []⟩)
    fun _ R s => s.heap.IsTuple a its ∧ R (.ok (.ret (.ref (s.heap.push (tupIt a)).objs.size))) { s with heap := (s.heap.push (tupIt a)).push (enOb s.heap.objs.size) } := by
  refine .of_wp ?_
  rintro prog w A R ⟨hp, g, d, tk, os⟩ ⟨tup, fin⟩
  have sub := sub_enumerate
  have go : ∀ {B : Around} {EE QQ : Value → Shared → Prop}, QQ (.ref hp.objs.size) ⟨hp.push (tupIt a), g, d, tk, os⟩ → wpAny (model prog w) B (pyIter (.ref a)) QQ EE ⟨hp, g, d, tk, os⟩ :=
    wpAny_pyIter_tuple (s := ⟨hp, g, d, tk, os⟩) tup
  wp_walk using go
  refine wpAny_stack_any fun frames => ?_
  apply wpAny_pure
  split
  case h_1 c _ _ _ _ _ =>
    by_cases e : (c == Value.type "enumerate") = true
    all_goals (simp only [e]; wp_walk using go; exact ⟨_, rfl, fin⟩)
  case h_2 => wp_walk using go; exact ⟨_, rfl, fin⟩
section
variable {P : Program} {w : World} {s : Shared} {A : Around} {E : Value → Shared → Prop}
/-- enumerate(t): the enumerate object stands one behind the tuple's iterator -/
theorem call_enumT {a : Addr} {its : Array Value} {Q : Value → Shared → Prop} (tup : s.heap.IsTuple a its)
    (then_ : ∀ hp : Heap, IsEnum hp (s.heap.objs.size + 1) s.heap.objs.size ((0 : Nat) : Int) .none → hp.get? s.heap.objs.size = some (tupIt a) → (∀ c u, s.heap.get? c = some u → hp.get? c = some u) → Q (.ref (s.heap.objs.size + 1)) { s with heap := hp }) :
    wpAny (model P w) A (call (.type "enumerate") [.ref a]) Q E s := by
  have sz : (s.heap.push (tupIt a)).objs.size = s.heap.objs.size + 1 := Heap.size_push _ _
  have at1 : ((s.heap.push (tupIt a)).push (enOb s.heap.objs.size)).get? (s.heap.objs.size + 1) = some (enOb s.heap.objs.size) := sz ▸ Heap.get?_push_size (s.heap.push (tupIt a)) (o := enOb s.heap.objs.size) rfl
  apply callType_new F.called_enumerate (by decide) (F.typeCall_enumerate_1 (.ref a)) (F.newCall_enumerate_1 (.ref a)) (fun o => F.args_object_init_2 o (.ref a)) F.entry_enumerate_new (made_enum a its)
  refine ⟨tup, ?_⟩
  show Shared.TypeIs _ _ _ ∧ Q _ _
  rw [sz]
  exact ⟨⟨_, at1, rfl⟩, then_ _ at1 (Heap.get?_push_of_some _ (Heap.get?_push_size _ rfl)) fun c u old => Heap.get?_push_of_some _ (Heap.get?_push_of_some _ old)⟩
end
theorem turn_pair {P : Program} {w : World} {K : PySem.W.Frag} {elts : List Expr} {kk : Nat} {tpos : Pos} {J : It} {fp : List Addr} {it : Addr} {tn : Nat → Heap → Prop}
    (mem : it ∈ fp) (obj : ∀ i h, tn i h → ∀ b ∈ fp, ∃ o, h.get? b = some o ∧ ∀ v, o.data ≠ .cell v)
    (keep : ∀ i h h', tn i h → (∀ b ∈ fp, ∀ o, h.get? b = some o → h'.get? b = some o) → tn i h')
    (self : ∀ (A : Around) (i : Nat) (s : Shared) (Q : Value → Shared → Prop) (E : Value → Shared → Prop), tn i s.heap → Q (.ref it) s → wpAny (model P w) A (pyIter (.ref it)) Q E s)
    (go : ∀ (X : Cx), X.prog = P → X.w = w → X.K = K → ∀ (i : Nat) (pins : List (Addr × Obj)) (s : Shared) (σ : L2.St) (H : Hp), Inv X pins σ H s → X.A.handled = none → tn i s.heap → J.go i H →
      ∃ (fp' wr : List Addr) (n : Nat) (Y : Nat → Heap → Value → Heap → Prop) (St : Nat → Heap → Prop), GoesN P w X.A (.Tuple elts kk tpos) it fp' wr n Y St ∧ i < n ∧ St i s.heap ∧ (∀ b ∈ wr, b ∈ fp) ∧
        ∀ v h', Y i s.heap v h' → St (i + 1) h' → ∃ T u1 u2 x y, v = .ref T ∧ s.heap.objs.size ≤ T ∧ h'.IsTuple T #[u1, u2] ∧ RelV x u1 ∧ RelV y u2 ∧ tn (i + 1) h' ∧ J.yld i H (.ref T) (upd H T (.tup [x, y])))
    (stop : ∀ (X : Cx), X.prog = P → X.w = w → X.K = K → ∀ (i : Nat) (pins : List (Addr × Obj)) (s : Shared) (σ : L2.St) (H : Hp), Inv X pins σ H s → X.A.handled = none → tn i s.heap → J.stop i H →
      ∃ (fp' wr : List Addr) (Y : Nat → Heap → Value → Heap → Prop) (St : Nat → Heap → Prop), GoesN P w X.A (.Tuple elts kk tpos) it fp' wr i Y St ∧ St i s.heap ∧ (∀ b ∈ wr, b ∈ fp)) :
    Turn P w K (.Tuple elts kk tpos) J fp it tn where
  mem := mem
  obj := obj
  keep := keep
  item := by
    rintro X hP hw hK hc i pins s σ H E I hf st hg
    obtain ⟨fp', wr, n, Y, St, W, hi, hs, hwr, hy⟩ := go X hP hw hK i pins s σ H I (I.ok.hd hc) st hg
    refine wpAny_mono (W.goes i s (fun v s2 => ∃ x H', Inv X pins σ H' s2 ∧ RelV x v ∧ J.yld i H x H' ∧ tn (i + 1) s2.heap ∧ ∀ b ∈ fp, H' b = none) E hi hs fun v h' tk y st' hk htk => ?_) (fun r s1 q => q) fun _ _ q => q
    obtain ⟨T, u1, u2, x, y', rfl, hT, ht, r1, r2, t', yl⟩ := hy v h' y st'
    have hd : s.heap.objs.size ≤ T := hT
    have new : ObjOk X.prog X.w (upd H T (.tup [x, y'])) h' T (.tup [x, y']) := ⟨by show 2 ≤ sizeLine; decide, [u1, u2], .cons r1 (.cons r2 .nil), ht⟩
    have I1 : Inv X pins σ (upd H T (.tup [x, y'])) { s with heap := h', toks := tk } := I.turnedNew (ch := fp) (fun c o hb q => hk c o (fun z => hb (hwr c z)) q) hf hT new
    refine ⟨.ref T, _, I1, rfl, yl, t', fun b hb => ?_⟩
    obtain ⟨o, ho, _⟩ := obj i _ st b hb
    rw [upd_ne (Nat.ne_of_lt (Nat.lt_of_lt_of_le (Heap.lt_size ho) hT))]
    exact (hf b hb).1
  done := by
    rintro X hP hw hK hc i pins s σ H E I hf st hg
    obtain ⟨fp', wr, Y, St, W, hs, hwr⟩ := stop X hP hw hK i pins s σ H I (I.ok.hd hc) st hg
    exact W.stops s (fun s1 => Inv X pins σ H s1) E hs fun h' tk hk htk => I.turnedL (ch := fp) (fun c o hb q => hk c o (fun z => hb (hwr c z)) q) hf
  self := self

/-! ### for i, x in enumerate(a tuple) -/
/-- the tuple at a, its items in new pairs behind their numbers -/
def IteT (K : PySem.W.Frag) (a : Addr) : It :=
  ⟨fun i H => ∃ (xs : List V) (x : V), SqT K H a xs ∧ xs[i]? = some x,
    fun i H v H' => ∃ T x, v = .ref T ∧ H T = none ∧ H' = upd H T (.tup [.int (i : Nat), x]) ∧ ∀ xs, SqT K H a xs → xs[i]? = some x,
    fun i H => ∃ xs : List V, SqT K H a xs ∧ xs.length = i⟩
theorem turn_enumT {P : Program} {w : World} {K : PySem.W.Frag} {elts : List Expr} {kk : Nat} {tpos : Pos} {a e it : Addr} (hei : e ≠ it) (hae : a ≠ e) (hai : a ≠ it) :
    Turn P w K (.Tuple elts kk tpos) (IteT K a) [e, it] e (fun i h => (∃ old, IsEnum h e it ((i : Nat) : Int) old) ∧ h.IsTupleIter it a i) := by
  refine turn_pair (by simp) (fun i h st b hb => ?_) (fun i h h' st k => ?_) (fun A i s Q E st h => let ⟨⟨_, he⟩, _⟩ := st; wpAny_pyIter_enum he h) ?_ ?_
  · obtain ⟨⟨old, he⟩, ⟨o2, e2, _, d2⟩⟩ := st
    rcases List.mem_cons.mp hb with rfl | rest
    · exact ⟨_, he, fun v => nofun⟩
    · obtain rfl : b = it := by simpa using rest
      exact ⟨o2, e2, fun v no => by simp [d2] at no⟩
  · obtain ⟨⟨old, he⟩, h2⟩ := st
    exact ⟨⟨old, k e (by simp) _ he⟩, h2.at fun o q => k it (by simp) o q⟩
  · rintro X rfl rfl rfl i pins s σ H I hh ⟨he, hit⟩ ⟨xs, x, hq, hx⟩
    obtain ⟨its, rv, p, _⟩ := I.tuple hq
    obtain ⟨u, hu, ru⟩ := Vals.get (xs := xs) rv hx
    have pt : s.heap.IsTuple a its.toArray := p
    have W := GoesN.enumFrom (prog := X.prog) (w := X.w) (A := X.A) (elts := elts) (x1 := kk) (pos := tpos) 0 (Draws.tuple (prog := X.prog) (w := X.w) (A := X.A.in1) hh it a hai its.toArray) e hei (by simp [hei, Ne.symm hae]) (by simp)
    refine ⟨_, _, _, _, _, W, ?_, ⟨?_, hit, pt⟩, by simp, ?_⟩
    · have : i < its.length := (List.getElem?_eq_some_iff.mp hu).1
      simpa using this
    · obtain ⟨old, he⟩ := he
      exact ⟨old, by simpa using he⟩
    · rintro v h' ⟨T, t, x', rfl, hT, hx', ht⟩ ⟨⟨old, he'⟩, hit', _⟩
      have hx2 : its[i]? = some x' := by simpa using hx'
      rw [hu] at hx2
      cases hx2
      refine ⟨T, _, _, .int (i : Nat), x, rfl, hT, ht, ⟨t, by simp⟩, ru, ⟨⟨old, by simpa using he'⟩, hit'⟩, T, x, rfl, I.hok.fresh hT, rfl, fun l hl => ?_⟩
      rw [I.tuple_inj hl hq]
      exact hx
  · rintro X rfl rfl rfl i pins s σ H I hh ⟨he, hit⟩ ⟨xs, hq, hx⟩
    obtain ⟨its, rv, p, _⟩ := I.tuple hq
    have pt : s.heap.IsTuple a its.toArray := p
    have W := GoesN.enumFrom (prog := X.prog) (w := X.w) (A := X.A) (elts := elts) (x1 := kk) (pos := tpos) 0 (Draws.tuple (prog := X.prog) (w := X.w) (A := X.A.in1) hh it a hai its.toArray) e hei (by simp [hei, Ne.symm hae]) (by simp)
    have hl : its.toArray.size = i := by
      have q := rv.length
      simp only [List.size_toArray]
      omega
    rw [hl] at W
    refine ⟨_, _, _, _, W, ⟨?_, hit, pt⟩, by simp⟩
    obtain ⟨old, he⟩ := he
    exact ⟨old, by simpa using he⟩
theorem walk_enumT {K : PySem.W.Frag} {a : Addr} {xs : List V} : Walk (IteT K a) xs.length (fun H => SqT K H a xs) (YPair (fun i => some (.int (i : Nat))) (fun i => xs[i]?)) where
  goes := fun i H hi h => ⟨xs, xs[i], h, by simp [hi]⟩
  stops := fun H h => ⟨xs, h, rfl⟩
  yields := fun i H x H' hi h ⟨T, y, e1, e2, e3, e4⟩ => ⟨T, _, y, e1, e2, e3, rfl, e4 xs h⟩
/-- enumerate(v): v a list or a tuple -/
@[irreducible] def EnumG (K : PySem.W.Frag) (vs : List V) (H1 : Hp) (R : It → Hp → Prop) : Prop :=
  ∃ a, vs = [.ref a] ∧ ((∃ xs, SqL K H1 a xs ∧ R (Ite K a) H1) ∨ (∃ xs, SqT K H1 a xs ∧ R (IteT K a) H1))
def iEnumA (K : PySem.W.Frag) (ta : TA) : TI := fun σ H R => ta σ H fun vs H1 => EnumG K vs H1 R
theorem late2 {X : Cx} {pins : List (Addr × Obj)} {σ : L2.St} {H : Hp} {s : Shared} (inv : Inv X pins σ H s) : ∀ b ∈ [s.heap.objs.size + 1, s.heap.objs.size], FpOk X pins H b := by
  intro b hb
  have above : s.heap.objs.size ≤ b := by
    have : b = s.heap.objs.size + 1 ∨ b = s.heap.objs.size := by simpa using hb
    omega
  exact inv.fpOk above (inv.hok.fresh above)
theorem pi_enumA {X : Cx} {e : Expr} {ta : TA} {p pos tpos : Pos} {elts : List Expr} {kk : Nat} (hg : Gl X "enumerate") (hm : X.mg "enumerate" = none) (ha : PA X [e] ta) (hs : starEach [e] X.env = [(false, eval e X.env)] := by rfl) :
    PI X (.Tuple elts kk tpos) (.Call (.Name "enumerate" p) [e] [] pos) (iEnumA X.K ta) := by
  constructor
  intro pins s σ H R inv pre
  refine Call_ (ld_blt inv hg hm boot_enumerate (PyProof.Rows.callWith_type1 (thn (ha.run pos pins s σ H _ inv pre) ?_) hs rfl))
  rintro us s1 ⟨vs, H1, inv1, rel, post⟩
  rw [show EnumG X.K vs H1 R = (∃ a, vs = [.ref a] ∧ ((∃ xs, SqL X.K H1 a xs ∧ R (Ite X.K a) H1) ∨ (∃ xs, SqT X.K H1 a xs ∧ R (IteT X.K a) H1))) by unfold EnumG; rfl] at post
  obtain ⟨a, rfl, ⟨xs, sq, r⟩ | ⟨xs, sq, r⟩⟩ := post
  · obtain rfl := Vals.ref1 rel
    obtain ⟨its, _, at_, _⟩ := inv1.list sq
    exact call_enumerate_list at_.isList fun hp en li _ old => wpAny_pyIter_enum en ⟨_, _, _, _, H1, rfl, inv1.kept (t' := s1.toks) old, turn_enum a (s1.heap.objs.size + 1) s1.heap.objs.size, ⟨⟨.none, en⟩, li, Nat.succ_ne_self _⟩, late2 inv1, r⟩
  · obtain rfl := Vals.ref1 rel
    obtain ⟨its, _, at_, _⟩ := inv1.tuple sq
    have low : a < s1.heap.objs.size := at_.lt
    exact call_enumT (its := its.toArray) at_ fun hp en it_ old => wpAny_pyIter_enum en ⟨_, _, _, _, H1, rfl, inv1.kept (t' := s1.toks) old, turn_enumT (Nat.succ_ne_self _) (Nat.ne_of_lt (Nat.lt_succ_of_lt low)) (Nat.ne_of_lt low), ⟨⟨.none, en⟩, ⟨_, it_, rfl, rfl⟩⟩, late2 inv1, r⟩
end RM

set_option Elab.async false
set_option linter.all false
set_option maxRecDepth 100000
/-! zip(a tuple, a text) -/
namespace RM
open PySem PySem.Spec
open PyProof.Rows
open L2
def ItzTS (K : PySem.W.Frag) (a : Addr) (z : Str) : It :=
  ⟨fun i H => ∃ (xs : List V) (x : V) (c : Nat), SqT K H a xs ∧ xs[i]? = some x ∧ z.cps[i]? = some c,
    fun i H v H' => ∃ T x c, v = .ref T ∧ H T = none ∧ H' = upd H T (.tup [x, .str ⟨#[c]⟩]) ∧ (∀ xs, SqT K H a xs → xs[i]? = some x) ∧ z.cps[i]? = some c,
    fun i H => ∃ xs : List V, SqT K H a xs ∧ min xs.length z.cps.size = i⟩
theorem turn_zipTS {P : Program} {w : World} {K : PySem.W.Frag} {elts : List Expr} {kk : Nat} {tpos : Pos} {a z TI TO i1 i2 : Addr} {x : Str} {tx : Tok} (S : ZipSep2 z TI TO i1 i2 [i1, a] [i2]) (hai : a ≠ i1) :
    Turn P w K (.Tuple elts kk tpos) (ItzTS K a x) [z, TI, TO, i1, i2] z (fun i h => IsZip h z TI TO .none ∧ IsTupOf2 h TI (.ref i1) (.ref i2) ∧ (∃ a1 a2, IsTupOf2 h TO a1 a2) ∧ h.IsTupleIter i1 a i ∧ h.IsStrIter i2 (strIterType x) x tx i) := by
  refine turn_pair (by simp) (fun i h st b hb => ?_) (fun i h h' st k => ?_) (fun A i s Q E st h => wpAny_pyIter_zip st.1 h) ?_ ?_
  · obtain ⟨zi, ti, ⟨_, _, to_⟩, ⟨o1, e1, _, d1⟩, ⟨o2, e2, _, d2⟩⟩ := st
    simp only [List.mem_cons, List.not_mem_nil, or_false] at hb ⊢
    have fl : ∀ {o : Obj} {vs : Array Value}, o.data = .fields vs → ∀ v, o.data ≠ .cell v := fun d v no => by simp [d] at no
    obtain rfl | rfl | rfl | rfl | rfl := hb
    · exact ⟨_, zi, fun v => nofun⟩
    · exact ⟨_, ti, fun v => nofun⟩
    · exact ⟨_, to_, fun v => nofun⟩
    · exact ⟨o1, e1, fl d1⟩
    · exact ⟨o2, e2, fl d2⟩
  · obtain ⟨hz, hTI, ⟨a1, a2, hTO⟩, h1, h2⟩ := st
    exact ⟨k z (by simp) _ hz, k TI (by simp) _ hTI, ⟨a1, a2, k TO (by simp) _ hTO⟩, h1.at fun o q => k i1 (by simp) o q, let ⟨o, ho, r⟩ := h2; ⟨o, k i2 (by simp) o ho, r⟩⟩
  · rintro X rfl rfl rfl i pins s σ H I hh ⟨hz, hTI, hTO, h1, h2⟩ ⟨xs, y, c, hq, hx, hc⟩
    obtain ⟨its, rv, p, _⟩ := I.tuple hq
    obtain ⟨u, hu, ru⟩ := Vals.get (xs := xs) rv hx
    have pt : s.heap.IsTuple a its.toArray := p
    have W := GoesN.zip2 (prog := X.prog) (w := X.w) (A := X.A) (elts := elts) (x1 := kk) (pos := tpos) S (Draws.tuple (prog := X.prog) (w := X.w) (A := X.A.in1) hh i1 a hai its.toArray) (Draws.text (prog := X.prog) (w := X.w) (A := X.A.in1) hh i2 x tx)
    refine ⟨_, _, _, _, _, W, ?_, ⟨hz, hTI, hTO, ⟨h1, pt⟩, h2⟩, by simp, ?_⟩
    · have l1 : i < its.length := (List.getElem?_eq_some_iff.mp hu).1
      have l2 : i < x.cps.size := (Array.getElem?_eq_some_iff.mp hc).1
      simp only [List.size_toArray]
      omega
    · rintro v h' ⟨T, x', y', rfl, hT, hx', ⟨c', t', hc', rfl⟩, ht⟩ ⟨hz', hTI', hTO', ⟨h1', _⟩, h2'⟩
      have hx2 : its[i]? = some x' := by simpa using hx'
      rw [hu] at hx2
      cases hx2
      rw [hc] at hc'
      cases hc'
      refine ⟨T, _, _, y, .str ⟨#[c]⟩, rfl, hT, ht, ru, ⟨t', rfl⟩, ⟨hz', hTI', hTO', h1', h2'⟩, T, y, c, rfl, I.hok.fresh hT, rfl, fun l hl => ?_, hc⟩
      rw [I.tuple_inj hl hq]
      exact hx
  · rintro X rfl rfl rfl i pins s σ H I hh ⟨hz, hTI, hTO, h1, h2⟩ ⟨xs, hq, hl⟩
    obtain ⟨its, rv, p, _⟩ := I.tuple hq
    have pt : s.heap.IsTuple a its.toArray := p
    have W := GoesN.zip2 (prog := X.prog) (w := X.w) (A := X.A) (elts := elts) (x1 := kk) (pos := tpos) S (Draws.tuple (prog := X.prog) (w := X.w) (A := X.A.in1) hh i1 a hai its.toArray) (Draws.text (prog := X.prog) (w := X.w) (A := X.A.in1) hh i2 x tx)
    have hl2 : min its.toArray.size x.cps.size = i := by
      have q := rv.length
      simp only [List.size_toArray]
      omega
    rw [hl2] at W
    exact ⟨_, _, _, _, W, ⟨hz, hTI, hTO, ⟨h1, pt⟩, h2⟩, by simp⟩
def iZipTS (K : PySem.W.Frag) (ta : TA) : TI := fun σ H R => ta σ H fun vs H1 => ∃ a xs z, vs = [.ref a, .str z] ∧ SqT K H1 a xs ∧ R (ItzTS K a z) H1
theorem late5 {X : Cx} {pins : List (Addr × Obj)} {σ : L2.St} {H : Hp} {s : Shared} (inv : Inv X pins σ H s) :
    ∀ b ∈ [s.heap.objs.size + 4, s.heap.objs.size + 2, s.heap.objs.size + 3, s.heap.objs.size, s.heap.objs.size + 1], FpOk X pins H b := by
  intro b hb
  have above : s.heap.objs.size ≤ b := by
    have : b = s.heap.objs.size + 4 ∨ b = s.heap.objs.size + 2 ∨ b = s.heap.objs.size + 3 ∨ b = s.heap.objs.size ∨ b = s.heap.objs.size + 1 := by
      simpa using hb
    omega
  exact inv.fpOk above (inv.hok.fresh above)
theorem pi_zipTS {X : Cx} {e e2 : Expr} {ta : TA} {p pos tpos : Pos} {elts : List Expr} {kk : Nat} (hg : Gl X "zip") (hm : X.mg "zip" = none) (ha : PA X [e, e2] ta)
    (two : starEach [e, e2] X.env = (false, eval e X.env) :: starEach [e2] X.env := by rfl)
    (plain : (backTo pos (starEach [e2] X.env)).any (·.1) = false := by rfl) : PI X (.Tuple elts kk tpos) (.Call (.Name "zip" p) [e, e2] [] pos) (iZipTS X.K ta) := by
  constructor
  intro pins s σ H R inv pre
  refine Call_ (ld_blt inv hg hm PyProof.Rows.boot_zip (PyProof.Rows.callWith_type1 (thn (ha.run pos pins s σ H _ inv pre) ?_) two plain))
  rintro us s1 ⟨_, H1, inv1, rel, a, xs, z, rfl, sq, r⟩
  obtain ⟨_, u, rfl, rfl, ⟨tx, rfl⟩⟩ := vals2 rel
  obtain ⟨its, _, at_, _⟩ := inv1.tuple sq
  have low : a < s1.heap.objs.size := at_.lt
  have sep := zip_sep2 (N := s1.heap.objs.size) (fp1 := [a]) (fp2 := []) (fun b hb => (List.mem_singleton.mp hb).symm ▸ low) nofun
  exact zip_begins2 (begins_tuple a its.toArray) (begins_text z tx) at_ trivial fun hp zi ti to_ i1 i2 _ old =>
    wpAny_pyIter_zip zi ⟨_, _, _, _, H1, rfl, inv1.kept (t' := s1.toks) old, turn_zipTS sep (Nat.ne_of_lt low), ⟨zi, ti, ⟨_, _, to_⟩, ⟨_, i1, rfl, rfl⟩, ⟨_, i2, rfl, rfl⟩⟩, late5 inv1, r⟩
theorem walk_zipTS {K : PySem.W.Frag} {a : Addr} {xs : List V} {z : Str} (hl : xs.length = z.cps.size) : Walk (ItzTS K a z) xs.length (fun H => SqT K H a xs) (YPair (fun i => xs[i]?) (fun i => (z.cps[i]?).map fun c => .str ⟨#[c]⟩)) where
  goes := fun i H hi h => ⟨xs, xs[i], z.cps[i]'(by omega), h, by simp [hi], by simp⟩
  stops := fun H h => ⟨xs, h, by omega⟩
  yields := fun i H x H' hi h ⟨T, y, c, e1, e2, e3, e4, e5⟩ => ⟨T, y, _, e1, e2, e3, e4 xs h, by show Option.map _ z.cps[i]? = _; rw [e5]; rfl⟩
end RM

set_option Elab.async false
set_option linter.all false
set_option maxRecDepth 100000
set_option maxHeartbeats 2000000
/-! heaps that keep; sequences of either kind -/
namespace RM
open PySem PySem.Spec
open PyProof.Rows
open L2
/-- a clause's turns: at the end `fin`; else one more, behind whose tests `wk` is done -/
def Turns (J : It) (g : TG) (tt : TT) (wk : L2.St → Hp → (Hp → Prop) → Prop) (σ0 : L2.St) (vs : List Nat) (W : Nat → Nat → Hp → Prop) (fin : Hp → Prop) : Prop :=
  ∀ i m H, W i m H → (J.stop i H ∧ fin H) ∨ (J.go i H ∧ ∃ N : Hp → Prop, (∀ H', N H' → ∃ m', m' < m ∧ W (i + 1) m' H') ∧
    ∀ x H', J.yld i H x H' → g x σ0 H' fun σ2 H2 => wipe σ2 vs = σ0 ∧ tt σ2 H2 fun b H3 => if b = true then wk σ2 H3 N else N H3)
theorem smT {K : PySem.W.Frag} {H H' : Hp} {a : Addr} {xs : List V} (e : Same H H') (h : SqT K H a xs) : SqT K H' a xs := by
  exact h.imp (Or.imp (e _ _) fun ⟨o, at_⟩ => ⟨o, e _ _ at_⟩) id
theorem smNew {H H1 : Hp} (e : Same H H1) {p : Addr} (h : H1 p = none) (o : HO) : Same H (upd H1 p o) := fun b u q => by rw [upd_ne (ne_of_none (e b u q) h)]; exact e b u q
theorem smNew1 {H : Hp} {p : Addr} (h : H p = none) (o : HO) : Same H (upd H p o) := smNew (Same.refl H) h o
/-- p is none of H's -/
theorem smOut {H H1 : Hp} (e : Same H H1) {p : Addr} (h : H p = none) (o : HO) : Same H (upd H1 p o) := fun b u q => by rw [upd_ne (ne_of_none q h)]; exact e b u q
/-- the tuples stay -/
def TS (K : PySem.W.Frag) (H H' : Hp) : Prop := ∀ a xs, SqT K H a xs → SqT K H' a xs
theorem TS.refl (K : PySem.W.Frag) (H : Hp) : TS K H H := fun _ _ h => h
theorem TS.trans {K : PySem.W.Frag} {H H1 H2 : Hp} (a : TS K H H1) (b : TS K H1 H2) : TS K H H2 := fun p xs h => b p xs (a p xs h)
theorem ts_sm {K : PySem.W.Frag} {H H' : Hp} (e : Same H H') : TS K H H' := fun _ _ h => smT e h
/-- what no tuple is may change -/
def NoTup : HO → Prop
  | .tup _ => False
  | .frz _ _ => False
  | _ => True
theorem ts_upd {K : PySem.W.Frag} {H : Hp} {p : Addr} {u : HO} (o : HO) (h : H p = some u) (n : NoTup u) : TS K H (upd H p o) := fun a xs q => by
  rcases q with (q | ⟨ob, q⟩) | q
  · exact .inl (.inl (by rw [upd_ne (fun z => by rw [z, h] at q; cases q; exact n)]; exact q))
  · exact .inl (.inr ⟨ob, by rw [upd_ne (fun z => by rw [z, h] at q; cases q; exact n)]; exact q⟩)
  · exact .inr q
/-! ### walks of pairs: what the library's Goes.. give, as a Turn -/
/-- a sequence to be read: a list or a tuple -/
def SqA (K : PySem.W.Frag) (H : Hp) (a : Addr) (xs : List V) : Prop := SqL K H a xs ∨ SqT K H a xs
theorem sqA_sm {K : PySem.W.Frag} {H H' : Hp} {a : Addr} {xs : List V} (e : Same H H') (h : SqA K H a xs) : SqA K H' a xs := by
  rcases h with h | h
  · exact .inl (e.seq h)
  · exact .inr (smT e h)
theorem seqA_of {K : PySem.W.Frag} {H0 H : Hp} {a : Addr} {xs : List V} {R : It → Hp → Prop} (h : SqA K H0 a xs) (e : Same H0 H) (q : ∀ J, Walk J xs.length (fun H' => Same H0 H') (YAt xs) → R J H) :
    SeqG K (.ref a) H R := by
  unfold SeqG
  rcases h with h | h
  · exact ⟨a, rfl, .inl ⟨xs, e.seq h, q _ (walk_list.mono (fun H' e => e.seq h) fun i H x H' _ _ y => y)⟩⟩
  · exact ⟨a, rfl, .inr ⟨xs, smT e h, q _ (walk_tup.mono (fun H' e => smT e h) fun i H x H' _ _ y => y)⟩⟩
theorem enumA_of {K : PySem.W.Frag} {H0 H : Hp} {a : Addr} {xs : List V} {R : It → Hp → Prop} (h : SqA K H0 a xs) (e : Same H0 H) (q : ∀ J, Walk J xs.length (fun H' => Same H0 H') (YPair (fun i => some (.int (i : Nat))) (fun i => xs[i]?)) → R J H) :
    EnumG K [.ref a] H R := by
  unfold EnumG
  rcases h with h | h
  · exact ⟨a, rfl, .inl ⟨xs, e.seq h, q _ (walk_enum.mono (fun H' e => e.seq h) fun i H x H' _ _ y => y)⟩⟩
  · exact ⟨a, rfl, .inr ⟨xs, smT e h, q _ (walk_enumT.mono (fun H' e => smT e h) fun i H x H' _ _ y => y)⟩⟩
/-- t + u -/
@[irreducible] def CatG (K : PySem.W.Frag) : R2 := rCatA K
theorem op_catG {X : Cx} : OpR X (binaryOp .Add) (CatG X.K) := by
  unfold CatG
  exact op_catA
theorem op_catG' {X : Cx} {K : PySem.W.Frag} (hK : X.K = K) : OpR X (binaryOp .Add) (CatG K) := by
  subst hK
  exact op_catG
theorem catA_of {K : PySem.W.Frag} {H : Hp} {a b : Addr} {xs ys : List V} {Q : VK} (ha : SqT K H a xs) (hb : SqT K H b ys) (hl : xs.length + ys.length ≤ sizeLine)
    (q : ∀ t H', Same H H' → SqT K H' t (xs ++ ys) → Q (.ref t) H') : CatG K (.ref a) (.ref b) H Q := by
  unfold CatG
  refine ⟨a, b, xs, ys, rfl, rfl, ha, hb, hl, ?_, ?_, ?_⟩
  · intro e
    subst e
    exact q b H (Same.refl H) (by simpa using hb)
  · intro _ e
    subst e
    exact q a H (Same.refl H) (by simpa using ha)
  · intro _ _ p hp
    exact q p _ (smNew1 hp _) (SqT.of upd_same)
end RM

set_option Elab.async false
set_option linter.all false
set_option maxRecDepth 100000
set_option maxHeartbeats 2000000
namespace RM
open PySem PySem.Spec PyProof.Rows L2
/-! ### data in the heap -/
section
variable {K : PySem.W.Frag} {H H' : Hp}
mutual
theorem Dp.keep (e : Same H H') : ∀ {v : V} {d : PyData}, Dp K H v d → Dp K H' v d
  | _, _, .non => .non
  | _, _, .bl b => .bl b
  | _, _, .int i => .int i
  | _, _, .str x => .str x
  | _, _, .lst h r => .lst (e.seq h) (DpAll.keep e r)
  | _, _, .tup h r => .tup (smT e h) (DpAll.keep e r)
theorem DpAll.keep (e : Same H H') : ∀ {vs : List V} {ds : List PyData}, DpAll K H vs ds → DpAll K H' vs ds
  | _, _, .nil => .nil
  | _, _, .cons h r => .cons (Dp.keep e h) (DpAll.keep e r)
end
theorem DpAll.len : ∀ {vs : List V} {ds : List PyData}, DpAll K H vs ds → vs.length = ds.length
  | _, _, .nil => rfl
  | _, _, .cons h r => congrArg (· + 1) (DpAll.len r)
theorem DpAll.get : ∀ {vs : List V} {ds : List PyData}, DpAll K H vs ds → ∀ {i : Nat} {d : PyData}, ds[i]? = some d → ∃ v, vs[i]? = some v ∧ Dp K H v d
  | _, _, .nil, i, d, e => by simp at e
  | _, _, .cons h r, 0, d, e => by
    have e' := Option.some.inj e
    subst e'
    exact ⟨_, rfl, h⟩
  | _, _, .cons h r, i + 1, d, e => DpAll.get r (i := i) (by simpa using e)
theorem DpAll.getV : ∀ {vs : List V} {ds : List PyData}, DpAll K H vs ds → ∀ {i : Nat} {v : V}, vs[i]? = some v → ∃ d, ds[i]? = some d ∧ Dp K H v d
  | _, _, .nil, i, d, e => by simp at e
  | _, _, .cons h r, 0, d, e => by
    have e' := Option.some.inj e
    subst e'
    exact ⟨_, rfl, h⟩
  | _, _, .cons h r, i + 1, d, e => DpAll.getV r (i := i) (by simpa using e)
theorem DpAll.snoc : ∀ {vs : List V} {ds : List PyData} {v : V} {d : PyData}, DpAll K H vs ds → Dp K H v d → DpAll K H (vs ++ [v]) (ds ++ [d])
  | _, _, _, _, .nil, h => .cons h .nil
  | _, _, _, _, .cons g r, h => .cons g (DpAll.snoc r h)
theorem DpAll.app : ∀ {vs us : List V} {ds es : List PyData}, DpAll K H vs ds → DpAll K H us es → DpAll K H (vs ++ us) (ds ++ es)
  | _, _, _, _, .nil, h => h
  | _, _, _, _, .cons g r, h => .cons g (DpAll.app r h)
theorem Dp.str_inv {v : V} {x : Str} (h : Dp K H v (.str x)) : v = .str x := by cases h; rfl
theorem Dp.int_inv {v : V} {i : Int} (h : Dp K H v (.int i)) : v = .int i := by cases h; rfl
theorem Dp.tup_inv {v : V} {ds : List PyData} (h : Dp K H v (.tuple ds)) : ∃ a xs, v = .ref a ∧ SqT K H a xs ∧ DpAll K H xs ds := by cases h with | tup h r => exact ⟨_, _, rfl, h, r⟩
theorem Dp.lst_inv {v : V} {ds : List PyData} (h : Dp K H v (.list ds)) : ∃ a xs, v = .ref a ∧ SqL K H a xs ∧ DpAll K H xs ds := by cases h with | lst h r => exact ⟨_, _, rfl, h, r⟩
theorem DpAll.cons_inv {vs : List V} {d : PyData} {ds : List PyData} (h : DpAll K H vs (d :: ds)) : ∃ v r, vs = v :: r ∧ Dp K H v d ∧ DpAll K H r ds := by cases h with | cons h r => exact ⟨_, _, rfl, h, r⟩
theorem DpAll.nil_inv {vs : List V} (h : DpAll K H vs []) : vs = [] := by cases h; rfl
end
/-- a sequence: a list or a tuple -/
def seqD (fl : Bool) (l : List PyData) : PyData := if fl then .list l else .tuple l
theorem seqD_inv {K : PySem.W.Frag} {H : Hp} {v : V} {fl : Bool} {ds : List PyData} (h : Dp K H v (seqD fl ds)) : ∃ a xs, v = .ref a ∧ (SqL K H a xs ∨ SqT K H a xs) ∧ DpAll K H xs ds := by
  cases fl with
  | true => obtain ⟨a, xs, e, h1, h2⟩ := Dp.lst_inv h; exact ⟨a, xs, e, .inl h1, h2⟩
  | false => obtain ⟨a, xs, e, h1, h2⟩ := Dp.tup_inv h; exact ⟨a, xs, e, .inr h1, h2⟩
/-! ### statements -/
inductive Stm where
  | read (v k : Str) | set (v : Str) (n : Int) | copy (v u : Str) | print (v : Str) | say (n : Int) | wait
  | ite (v : Str) (n : Int) (a b : List Stm) | same (v u : Str) (a b : List Stm) | rep (n : Int) (a : List Stm) | stop
namespace Stm
def word : Stm → Str
  | .read .. => "read" | .set .. => "set" | .copy .. => "copy" | .print .. => "print" | .say .. => "say" | .wait => "wait"
  | .ite .. => "if" | .same .. => "same" | .rep .. => "repeat" | .stop => "stop"
def form : Stm → Str
  | .read .. => "kk" | .set .. => "kv" | .copy .. => "kk" | .print .. => "k" | .say .. => "v" | .wait => ""
  | .ite .. => "kvbb" | .same .. => "kkbb" | .rep .. => "tb" | .stop => ""
def flats : Stm → List PyData
  | .read v k => [.str v, .str k] | .set v n => [.str v, .int n] | .copy v u => [.str v, .str u] | .print v => [.str v] | .say n => [.int n] | .wait => []
  | .ite v n _ _ => [.str v, .int n] | .same v u _ _ => [.str v, .str u] | .rep n _ => [.int n] | .stop => []
def bodies : Stm → List (List Stm)
  | .ite _ _ a b => [a, b] | .same _ _ a b => [a, b] | .rep _ a => [a]
  | _ => []
/-- the variables that it names -/
def names : Stm → List Str
  | .read v _ => [v] | .set v _ => [v] | .copy v u => [v, u] | .print v => [v] | .say _ => [] | .wait => []
  | .ite v _ _ _ => [v] | .same v u _ _ => [v, u] | .rep _ _ => [] | .stop => []
end Stm
mutual
def encS (fl : Bool) : Stm → PyData
  | .read v k => .tuple [.str "read", .str v, .str k]
  | .set v n => .tuple [.str "set", .str v, .int n]
  | .copy v u => .tuple [.str "copy", .str v, .str u]
  | .print v => .tuple [.str "print", .str v]
  | .say n => .tuple [.str "say", .int n]
  | .wait => .tuple [.str "wait"]
  | .ite v n a b => .tuple [.str "if", .str v, .int n, seqD fl (encB fl a), seqD fl (encB fl b)]
  | .same v u a b => .tuple [.str "same", .str v, .str u, seqD fl (encB fl a), seqD fl (encB fl b)]
  | .rep n a => .tuple [.str "repeat", .int n, seqD fl (encB fl a)]
  | .stop => .tuple [.str "stop"]
def encB (fl : Bool) : List Stm → List PyData
  | [] => []
  | s :: r => encS fl s :: encB fl r
end
theorem encB_map (fl : Bool) : ∀ l : List Stm, encB fl l = l.map (encS fl)
  | [] => rfl
  | s :: r => by rw [encB, List.map_cons, encB_map fl r]
theorem encS_eq (fl : Bool) (s : Stm) : encS fl s = .tuple (.str s.word :: (s.flats ++ s.bodies.map fun b => seqD fl (encB fl b))) := by
  cases s <;> simp only [encS] <;> rfl
/-! ### words, values -/
def isValue (n : Int) : Bool := decide (-99 ≤ n) && decide (n ≤ 99)
def isLet (c : Nat) : Bool := decide (c ∈ ("abcdefghijklmnopqrstuvwxyz" : Str).cps.toList)
def isWord (z : Str) : Bool := decide (1 ≤ z.length) && decide (z.length ≤ 6) && z.cps.toList.all isLet
theorem isWord_len {z : Str} (h : isWord z = true) : z.length ≤ 6 := by
  unfold isWord at h
  rw [Bool.and_eq_true, Bool.and_eq_true] at h
  exact of_decide_eq_true h.1.2
theorem word_size {z : Str} (h : isWord z = true) : z.length ≤ sizeLine := Nat.le_of_lt (small1000 (by have := isWord_len h; omega))
/-- what stands in a statement itself is right -/
def wl : Stm → Bool
  | .read v k => isWord v && isWord k | .set v n => isWord v && isValue n | .copy v u => isWord v && isWord u | .print v => isWord v | .say n => isValue n | .wait => true
  | .ite v n _ _ => isWord v && isValue n | .same v u _ _ => isWord v && isWord u | .rep n _ => decide (0 ≤ n) && decide (n ≤ 3) | .stop => true
mutual
def wS : Stm → Bool
  | .read v k => isWord v && isWord k | .set v n => isWord v && isValue n | .copy v u => isWord v && isWord u | .print v => isWord v | .say n => isValue n | .wait => true
  | .ite v n a b => isWord v && isValue n && (wB a && wB b) | .same v u a b => isWord v && isWord u && (wB a && wB b) | .rep n a => (decide (0 ≤ n) && decide (n ≤ 3)) && wB a | .stop => true
def wB : List Stm → Bool
  | [] => true
  | s :: r => wS s && wB r
end
theorem wl_of {s : Stm} (h : wS s = true) : wl s = true := by
  cases s <;> simp only [wS, wl] at h ⊢ <;> first | exact h | exact (Bool.and_eq_true_iff.mp h).1
theorem wB_of {s : Stm} (h : wS s = true) : ∀ b ∈ s.bodies, wB b = true := by
  cases s <;> simp only [wS, Stm.bodies, List.mem_cons, List.not_mem_nil, or_false, Bool.and_eq_true, false_implies, implies_true] at h ⊢
  · rintro b (rfl | rfl)
    · exact h.2.1
    · exact h.2.2
  · rintro b (rfl | rfl)
    · exact h.2.1
    · exact h.2.2
  · rintro b rfl
    exact h.2
theorem wB_all : ∀ {l : List Stm}, wB l = true → ∀ s ∈ l, wS s = true
  | [], _, s, h => by simp at h
  | t :: r, w, s, h => by
    rw [wB, Bool.and_eq_true] at w
    rcases List.mem_cons.mp h with rfl | h
    · exact w.1
    · exact wB_all w.2 s h
theorem isValue_rep {n : Int} (h : (decide (0 ≤ n) && decide (n ≤ 3)) = true) : isValue n = true := by
  rw [Bool.and_eq_true] at h
  have h1 := of_decide_eq_true h.1
  have h2 := of_decide_eq_true h.2
  unfold isValue
  rw [decide_eq_true (by omega), decide_eq_true (by omega)]
  rfl
/-! ### numbers of a statement -/
mutual
/-- how deep bodies are nested in a statement, a body -/
def dS : Stm → Nat
  | .ite _ _ a b => max (dB a) (dB b)
  | .same _ _ a b => max (dB a) (dB b)
  | .rep _ a => dB a
  | _ => 0
def dB : List Stm → Nat
  | [] => 1
  | s :: r => max (dS s + 1) (dB r)
end
mutual
/-- how many statements, inner ones counted -/
def cS : Stm → Nat
  | .ite _ _ a b => 1 + cB a + cB b
  | .same _ _ a b => 1 + cB a + cB b
  | .rep _ a => 1 + cB a
  | _ => 1
def cB : List Stm → Nat
  | [] => 0
  | s :: r => cS s + cB r
end
mutual
/-- the statements of a body with their paths, in the order of the text -/
def aS (p : List Int) : Stm → List (List Int × Stm)
  | .ite v n a b => (p, .ite v n a b) :: (aB (p ++ [0]) 0 a ++ aB (p ++ [1]) 0 b)
  | .same v u a b => (p, .same v u a b) :: (aB (p ++ [0]) 0 a ++ aB (p ++ [1]) 0 b)
  | .rep n a => (p, .rep n a) :: aB (p ++ [0]) 0 a
  | s => [(p, s)]
def aB (p : List Int) (i : Nat) : List Stm → List (List Int × Stm)
  | [] => []
  | s :: r => aS (p ++ [(i : Int)]) s ++ aB p (i + 1) r
end
theorem dB_one : ∀ l : List Stm, 1 ≤ dB l
  | [] => Nat.le_refl 1
  | s :: r => by rw [dB]; exact Nat.le_trans (dB_one r) (Nat.le_max_right _ _)
theorem dB_mem : ∀ {l : List Stm} {s : Stm}, s ∈ l → dS s + 1 ≤ dB l
  | [], s, h => by simp at h
  | t :: r, s, h => by
    rw [dB]
    rcases List.mem_cons.mp h with rfl | h
    · exact Nat.le_max_left _ _
    · exact Nat.le_trans (dB_mem h) (Nat.le_max_right _ _)
theorem dS_mem {s : Stm} {b : List Stm} (h : b ∈ s.bodies) : dB b ≤ dS s := by
  cases s <;> simp only [Stm.bodies, List.mem_cons, List.not_mem_nil, or_false] at h <;> simp only [dS]
  · rcases h with rfl | rfl
    · exact Nat.le_max_left _ _
    · exact Nat.le_max_right _ _
  · rcases h with rfl | rfl
    · exact Nat.le_max_left _ _
    · exact Nat.le_max_right _ _
  · rw [h]; exact Nat.le_refl _
theorem cS_pos (s : Stm) : 1 ≤ cS s := by cases s <;> simp only [cS] <;> omega
theorem cB_mem : ∀ {l : List Stm} {s : Stm}, s ∈ l → cS s ≤ cB l
  | [], s, h => by simp at h
  | t :: r, s, h => by
    rw [cB]
    rcases List.mem_cons.mp h with rfl | h
    · omega
    · have := cB_mem h; omega
theorem cS_mem {s : Stm} {b : List Stm} (h : b ∈ s.bodies) : cB b + 1 ≤ cS s := by
  cases s <;> simp only [Stm.bodies, List.mem_cons, List.not_mem_nil, or_false] at h <;> simp only [cS]
  · rcases h with rfl | rfl <;> omega
  · rcases h with rfl | rfl <;> omega
  · rw [h]; omega
theorem cB_len : ∀ l : List Stm, l.length ≤ cB l
  | [] => Nat.le_refl 0
  | s :: r => by
    have := cB_len r
    have := cS_pos s
    rw [cB, List.length_cons]
    omega
/-! ### kinds -/
theorem tyT {K : PySem.W.Frag} {H : Hp} {a : Addr} {xs : List V} (h : SqT K H a xs) : TyX K H (.ref a) (.type "tuple") := by
  rcases h with (h | ⟨o, h⟩) | ⟨o, its, n, h, hc, _⟩
  · exact .base (.tup h)
  · exact .fTuple h
  · exact .kTuple h hc
theorem tyL {K : PySem.W.Frag} {H : Hp} {a : Addr} {xs : List V} (h : SqL K H a xs) : TyX K H (.ref a) (.type "list") := by
  rcases h with (h | ⟨o, h⟩) | ⟨o, its, n, h, hc, _⟩
  · exact .base (.lst h)
  · exact .base (.frz h)
  · exact .kList h hc
/-! ### cuts -/
theorem cut_tail (x : V) (xs : List V) : cutV (x :: xs) (some 1) none = xs := by
  unfold cutV
  have e1 : HT.sIx (x :: xs).length 0 (some 1) = 1 := by
    have := HT.sIx_nat (x :: xs).length 0 1
    rw [show (some 1 : Option Int) = some ((1 : Nat) : Int) from rfl, this, List.length_cons]
    omega
  rw [e1, HT.sIx_none, List.length_cons]
  show (xs.drop 0).take (xs.length + 1 - 1) = xs
  rw [List.drop_zero, Nat.add_sub_cancel, List.take_length]
theorem cut_not {x : V} {xs : List V} : ¬ (HT.sIx (x :: xs).length 0 (some 1) = 0 ∧ HT.sIx (x :: xs).length (x :: xs).length none = (x :: xs).length) := by
  intro h
  have := HT.sIx_nat (x :: xs).length 0 1
  rw [show (some 1 : Option Int) = some ((1 : Nat) : Int) from rfl, this, List.length_cons] at h
  omega
/-! ### comprehensions over a walk: what is kept of each item -/
theorem paired_mono {α β : Type} {F G : α → β → Prop} {l : List α} {m : List β} (p : Paired F l m) (h : ∀ a b, F a b → G a b) : Paired G l m := L2.Paired.mapP p h
/-- a new item goes to the list at D -/
abbrev addsL (D : Addr) (te : TE) : L2.St → Hp → (Hp → Prop) → Prop := fun σ H N => te σ H fun y H1 => ∃ acc, H1 D = some (.lst acc) ∧ acc.length < sizeLine ∧ N (upd H1 D (.lst (acc ++ [y])))
theorem lc_opt {α : Type} {J : It} {n : Nat} {G : Hp → Prop} {Y : Nat → Hp → V → Hp → Prop} (wk : Walk J n G Y) {g : TG} {tt : TT} {te : TE} {vs : List Nat} {σ : L2.St} {H1 : Hp} {D : Addr} {Qd : Hp → Prop}
    (R : α → V → Hp → Prop) (o : Nat → Option α) (hD : H1 D = none) (hn : n < sizeLine) (hG : ∀ H, Same H1 H → G H)
    (hR : ∀ a y H H', R a y H → Same H H' → R a y H') (hRD : ∀ a y H l l', R a y H → H D = some (.lst l) → R a y (upd H D (.lst l')))
    (hs : ∀ i x H H' (N : Hp → Prop), i < n → Same H1 H → Y i H x H' →
      (∀ y H4 a, o i = some a → Same H H4 → R a y H4 → ∃ acc, H4 D = some (.lst acc) ∧ acc.length < sizeLine ∧ N (upd H4 D (.lst (acc ++ [y])))) → (o i = none → ∀ H3, Same H H3 → N H3) →
      g x (wipe σ vs) H' fun σ2 H2 => wipe σ2 vs = wipe σ vs ∧ tt σ2 H2 fun b H3 => if b = true then addsL D te σ2 H3 N else N H3)
    (hd : ∀ H ys, Same H1 H → H D = some (.lst ys) → Paired (fun y a => R a y H) ys ((List.range n).filterMap o) → Qd H) :
    ∃ W : Nat → Nat → Hp → Prop, (∃ m, W 0 m (upd H1 D (.lst []))) ∧ Turns J g tt (addsL D te) (wipe σ vs) vs W Qd := by
  have len : ∀ i, ((List.range i).filterMap o).length ≤ i := fun i => Nat.le_trans (List.length_filterMap_le ..) (by simp)
  refine lc_it wk (fun i H => i ≤ n ∧ Same H1 H ∧ ∃ acc, H D = some (.lst acc) ∧ Paired (fun y a => R a y H) acc ((List.range i).filterMap o)) ⟨Nat.zero_le _, smNew1 hD _, [], upd_same, .nil⟩ (fun i H _ h => hG H h.2.1) ?_ ?_
  · rintro i x H H' hi ⟨_, s1, acc, hacc, p⟩ y
    refine hs i x H H' _ hi s1 y (fun y H4 a ha s4 r => ⟨acc, s4 _ _ hacc, ?_, hi, ?_, acc ++ [y], upd_same, ?_⟩) (fun ha H3 s3 => ⟨hi, fun b u q => s3 _ _ (s1 _ _ q), acc, s3 _ _ hacc, ?_⟩)
    · have := p.length
      have := len i
      omega
    · intro b u q
      rw [upd_ne (ne_of_none q hD)]
      exact s4 _ _ (s1 _ _ q)
    · rw [List.range_succ, List.filterMap_append, List.filterMap_cons, ha]
      refine Paired.snoc (paired_mono p fun y' a' r' => ?_) ?_
      · exact hRD _ _ _ _ _ (hR _ _ _ _ r' s4) (s4 _ _ hacc)
      · exact hRD _ _ _ _ _ r (s4 _ _ hacc)
    · rw [List.range_succ, List.filterMap_append, List.filterMap_cons, ha]
      show Paired _ acc (_ ++ [])
      rw [List.append_nil]
      exact paired_mono p fun y' a' r' => hR _ _ _ _ r' s3
  · rintro H ⟨_, s1, acc, hacc, p⟩
    exact hd H acc s1 hacc p
theorem paired_const {α β : Type} {v : α} : ∀ {ys : List α} {l : List β}, Paired (fun y _ => y = v) ys l → ys = List.replicate l.length v
  | _, _, .nil => rfl
  | _, _, .cons h t => by rw [h, paired_const t]; rfl
theorem range_some {α : Type} (f : Nat → α) (n : Nat) : (List.range n).filterMap (fun i => some (f i)) = (List.range n).map f := by
  induction n with
  | zero => rfl
  | succ n ih => rw [List.range_succ, List.filterMap_append, List.map_append, ih]; rfl
theorem rep_bl (n : Nat) : List.replicate n (V.bl true) = (List.replicate n true).map V.bl := (List.map_replicate ..).symm
theorem all_rep (n : Nat) : (List.replicate n true).all id = true := by
  rw [List.all_eq_true]
  intro x hx
  rw [(List.mem_replicate.mp hx).2]
  rfl
/-! ### data without lists -/
mutual
def noL : PyData → Bool
  | .list _ => false
  | .tuple ds => noLs ds
  | .dict _ => false
  | _ => true
def noLs : List PyData → Bool
  | [] => true
  | d :: r => noL d && noLs r
end
section
variable {K : PySem.W.Frag} {H H' : Hp}
mutual
theorem dp_ts (e : TS K H H') : ∀ {v : V} {d : PyData}, Dp K H v d → noL d = true → Dp K H' v d
  | _, _, .non, _ => .non
  | _, _, .bl b, _ => .bl b
  | _, _, .int i, _ => .int i
  | _, _, .str x, _ => .str x
  | _, _, .lst _ _, n => by simp [noL] at n
  | _, _, .tup h r, n => .tup (e _ _ h) (dps_ts e r (by simpa [noL] using n))
theorem dps_ts (e : TS K H H') : ∀ {vs : List V} {ds : List PyData}, DpAll K H vs ds → noLs ds = true → DpAll K H' vs ds
  | _, _, .nil, _ => .nil
  | _, _, .cons h r, n => by
    rw [noLs, Bool.and_eq_true] at n
    exact .cons (dp_ts e h n.1) (dps_ts e r n.2)
end
end
mutual
theorem noL_encS : ∀ s : Stm, noL (encS false s) = true
  | .read v k => rfl
  | .set v n => rfl
  | .copy v u => rfl
  | .print v => rfl
  | .say n => rfl
  | .wait => rfl
  | .stop => rfl
  | .ite v n a b => by
    have h1 := noL_encB a
    have h2 := noL_encB b
    simp only [encS, seqD, Bool.false_eq_true, if_false, noL, noLs, h1, h2, Bool.and_self]
  | .same v u a b => by
    have h1 := noL_encB a
    have h2 := noL_encB b
    simp only [encS, seqD, Bool.false_eq_true, if_false, noL, noLs, h1, h2, Bool.and_self]
  | .rep n a => by
    have h1 := noL_encB a
    simp only [encS, seqD, Bool.false_eq_true, if_false, noL, noLs, h1, Bool.and_self]
theorem noL_encB : ∀ l : List Stm, noLs (encB false l) = true
  | [] => rfl
  | s :: r => by
    have h1 := noL_encS s
    have h2 := noL_encB r
    rw [encB, noLs, h1, h2]
    rfl
end
theorem noLs_get : ∀ {ds : List PyData}, noLs ds = true → ∀ d ∈ ds, noL d = true
  | [], _, d, h => by simp at h
  | e :: r, n, d, h => by
    rw [noLs, Bool.and_eq_true] at n
    rcases List.mem_cons.mp h with rfl | h
    · exact n.1
    · exact noLs_get n.2 d h
theorem noLs_of : ∀ {ds : List PyData}, (∀ d ∈ ds, noL d = true) → noLs ds = true
  | [], _ => rfl
  | e :: r, h => by rw [noLs, h e List.mem_cons_self, noLs_of fun d hd => h d (List.mem_cons_of_mem _ hd)]; rfl
theorem noLs_app : ∀ {ds es : List PyData}, noLs ds = true → noLs es = true → noLs (ds ++ es) = true
  | [], _, _, h => h
  | e :: r, es, n, h => by
    rw [noLs, Bool.and_eq_true] at n
    rw [List.cons_append, noLs, n.1, noLs_app n.2 h]
    rfl
/-- a tuple of ints -/
def pathD (p : List Int) : PyData := .tuple (p.map .int)
theorem noL_path (p : List Int) : noL (pathD p) = true := by
  show noLs (p.map .int) = true
  exact noLs_of fun d h => by
    obtain ⟨i, _, rfl⟩ := List.mem_map.mp h
    rfl
theorem ints_dp {K : PySem.W.Frag} {H : Hp} : ∀ p : List Int, DpAll K H (p.map V.int) (p.map .int)
  | [] => .nil
  | i :: r => .cons (.int i) (ints_dp r)
theorem ints_inv {K : PySem.W.Frag} {H : Hp} : ∀ {p : List Int} {vs : List V}, DpAll K H vs (p.map .int) → vs = p.map V.int
  | [], _, h => DpAll.nil_inv h
  | i :: r, _, h => by
    obtain ⟨v, q, rfl, h1, h2⟩ := DpAll.cons_inv h
    rw [Dp.int_inv h1, ints_inv h2]
    rfl
theorem path_dp {K : PySem.W.Frag} {H : Hp} {a : Addr} {p : List Int} (h : SqT K H a (p.map V.int)) : Dp K H (.ref a) (pathD p) := .tup h (ints_dp p)
theorem path_inv {K : PySem.W.Frag} {H : Hp} {v : V} {p : List Int} (h : Dp K H v (pathD p)) : ∃ a, v = .ref a ∧ SqT K H a (p.map V.int) := by
  obtain ⟨a, xs, rfl, h1, h2⟩ := Dp.tup_inv h
  rw [ints_inv h2] at h1
  exact ⟨a, rfl, h1⟩
/-! ### the signs of a statement's items -/
def Stm.signs : Stm → List Nat
  | .read .. => [107, 107] | .set .. => [107, 118] | .copy .. => [107, 107] | .print .. => [107] | .say .. => [118] | .wait => []
  | .ite .. => [107, 118, 98, 98] | .same .. => [107, 107, 98, 98] | .rep .. => [116, 98] | .stop => []
theorem signs_eq (s : Stm) : s.form.cps.toList = s.signs := by cases s <;> (simp only [Stm.form, Stm.signs]; decide +kernel)
theorem sign_at {s : Stm} {i c : Nat} (h : s.form.cps[i]? = some c) : s.signs[i]? = some c := by rw [← signs_eq]; simpa using h
/-- one sign of a text beside another -/
theorem sgn (c x : Nat) : decide (V.str ⟨#[c]⟩ = V.str ⟨#[x]⟩) = decide (c = x) := by
  by_cases h : c = x
  · rw [h, decide_eq_true rfl, decide_eq_true rfl]
  · rw [decide_eq_false h, decide_eq_false]
    intro e
    injection e with e1
    injection e1 with e2
    exact h (by simpa using e2)
theorem str_k : ("k" : Str) = ⟨#[107]⟩ := by decide +kernel
theorem str_b : ("b" : Str) = ⟨#[98]⟩ := by decide +kernel
/-- the items that are bodies, by their signs -/
theorem bodies_sel (s : Stm) (f : List Stm → PyData) :
    (List.range (s.flats ++ s.bodies.map f).length).filterMap (fun i => if s.signs[i]? = some 98 then (s.flats ++ s.bodies.map f)[i]? else none) = s.bodies.map f := by
  cases s <;> rfl
theorem names_sel (s : Stm) (f : List Stm → PyData) (h : ∀ v k, s ≠ .read v k) :
    (List.range (s.flats ++ s.bodies.map f).length).filterMap (fun i => if s.signs[i]? = some 107 then (s.flats ++ s.bodies.map f)[i]? else none) = s.names.map .str := by
  cases s <;> first | rfl | exact absurd rfl (h _ _)
theorem some_range {α : Type} : ∀ (l : List α), (List.range l.length).filterMap (fun i => l[i]?) = l := by
  intro l
  have e : ∀ n, n ≤ l.length → (List.range n).filterMap (fun i => l[i]?) = l.take n := by
    intro n
    induction n with
    | zero => intro _; simp
    | succ n ih =>
      intro hn
      rw [List.range_succ, List.filterMap_append, ih (by omega), List.take_add_one]
      have : l[n]? = some l[n] := List.getElem?_eq_getElem (by omega)
      simp [this]
  rw [e l.length (Nat.le_refl _), List.take_length]
theorem sign98 {s : Stm} {i : Nat} (h : s.signs[i]? = some 98) : ∃ b ∈ s.bodies, ∀ f : List Stm → PyData, (s.flats ++ s.bodies.map f)[i]? = some (f b) := by
  cases s with
  | ite v n a b =>
    match i, h with
    | 2, _ => exact ⟨a, by simp [Stm.bodies], fun f => rfl⟩
    | 3, _ => exact ⟨b, by simp [Stm.bodies], fun f => rfl⟩
    | 0, h => simp [Stm.signs] at h
    | 1, h => simp [Stm.signs] at h
    | n + 4, h => simp [Stm.signs] at h
  | same v n a b =>
    match i, h with
    | 2, _ => exact ⟨a, by simp [Stm.bodies], fun f => rfl⟩
    | 3, _ => exact ⟨b, by simp [Stm.bodies], fun f => rfl⟩
    | 0, h => simp [Stm.signs] at h
    | 1, h => simp [Stm.signs] at h
    | n + 4, h => simp [Stm.signs] at h
  | rep n a =>
    match i, h with
    | 1, _ => exact ⟨a, by simp [Stm.bodies], fun f => rfl⟩
    | 0, h => simp [Stm.signs] at h
    | n + 2, h => simp [Stm.signs] at h
  | read v k => match i, h with
    | 0, h => simp [Stm.signs] at h
    | 1, h => simp [Stm.signs] at h
    | n + 2, h => simp [Stm.signs] at h
  | set v k => match i, h with
    | 0, h => simp [Stm.signs] at h
    | 1, h => simp [Stm.signs] at h
    | n + 2, h => simp [Stm.signs] at h
  | copy v k => match i, h with
    | 0, h => simp [Stm.signs] at h
    | 1, h => simp [Stm.signs] at h
    | n + 2, h => simp [Stm.signs] at h
  | print v => match i, h with
    | 0, h => simp [Stm.signs] at h
    | n + 1, h => simp [Stm.signs] at h
  | say v => match i, h with
    | 0, h => simp [Stm.signs] at h
    | n + 1, h => simp [Stm.signs] at h
  | wait => simp [Stm.signs] at h
  | stop => simp [Stm.signs] at h
theorem signFlat {s : Stm} {i c : Nat} (h : s.signs[i]? = some c) (n : c ≠ 98) : ∃ d, noL d = true ∧ ∀ f : List Stm → PyData, (s.flats ++ s.bodies.map f)[i]? = some d := by
  cases s with
  | ite v m a b =>
    match i, h with
    | 0, _ => exact ⟨.str v, rfl, fun f => rfl⟩
    | 1, _ => exact ⟨.int m, rfl, fun f => rfl⟩
    | 2, h => exact absurd (Option.some.inj h).symm n
    | 3, h => exact absurd (Option.some.inj h).symm n
    | k + 4, h => simp [Stm.signs] at h
  | same v m a b =>
    match i, h with
    | 0, _ => exact ⟨.str v, rfl, fun f => rfl⟩
    | 1, _ => exact ⟨.str m, rfl, fun f => rfl⟩
    | 2, h => exact absurd (Option.some.inj h).symm n
    | 3, h => exact absurd (Option.some.inj h).symm n
    | k + 4, h => simp [Stm.signs] at h
  | rep m a =>
    match i, h with
    | 0, _ => exact ⟨.int m, rfl, fun f => rfl⟩
    | 1, h => exact absurd (Option.some.inj h).symm n
    | k + 2, h => simp [Stm.signs] at h
  | read v k => match i, h with
    | 0, h => exact ⟨.str v, rfl, fun f => rfl⟩
    | 1, h => exact ⟨.str k, rfl, fun f => rfl⟩
    | n + 2, h => simp [Stm.signs] at h
  | set v k => match i, h with
    | 0, h => exact ⟨.str v, rfl, fun f => rfl⟩
    | 1, h => exact ⟨.int k, rfl, fun f => rfl⟩
    | n + 2, h => simp [Stm.signs] at h
  | copy v k => match i, h with
    | 0, h => exact ⟨.str v, rfl, fun f => rfl⟩
    | 1, h => exact ⟨.str k, rfl, fun f => rfl⟩
    | n + 2, h => simp [Stm.signs] at h
  | print v => match i, h with
    | 0, h => exact ⟨.str v, rfl, fun f => rfl⟩
    | n + 1, h => simp [Stm.signs] at h
  | say v => match i, h with
    | 0, h => exact ⟨.int v, rfl, fun f => rfl⟩
    | n + 1, h => simp [Stm.signs] at h
  | wait => simp [Stm.signs] at h
  | stop => simp [Stm.signs] at h
theorem items_len (s : Stm) (f : List Stm → PyData) : (s.flats ++ s.bodies.map f).length = s.signs.length := by cases s <;> rfl
/-! ### paths -/
def aBs (q : List Int) : Nat → List (List Stm) → List (List Int × Stm)
  | _, [] => []
  | j, b :: r => aB (q ++ [(j : Int)]) 0 b ++ aBs q (j + 1) r
theorem aS_eq (q : List Int) (s : Stm) : aS q s = (q, s) :: aBs q 0 s.bodies := by
  cases s <;> simp only [aS, Stm.bodies, aBs, List.append_nil] <;> rfl
theorem aB_app (p : List Int) : ∀ (l m : List Stm) (k : Nat), aB p k (l ++ m) = aB p k l ++ aB p (k + l.length) m
  | [], m, k => rfl
  | s :: r, m, k => by
    rw [List.cons_append, aB, aB, aB_app p r m (k + 1), List.append_assoc, List.length_cons]
    rw [show k + 1 + r.length = k + (r.length + 1) by omega]
theorem aBs_app (q : List Int) : ∀ (l m : List (List Stm)) (k : Nat), aBs q k (l ++ m) = aBs q k l ++ aBs q (k + l.length) m
  | [], m, k => rfl
  | s :: r, m, k => by
    rw [List.cons_append, aBs, aBs, aBs_app q r m (k + 1), List.append_assoc, List.length_cons]
    rw [show k + 1 + r.length = k + (r.length + 1) by omega]
theorem take_more {α : Type} {l : List α} {i : Nat} {x : α} (h : l[i]? = some x) : l.take (i + 1) = l.take i ++ [x] := by
  rw [List.take_add_one, h]
  rfl
theorem len_take {α : Type} {l : List α} {i : Nat} {x : α} (h : l[i]? = some x) : (l.take i).length = i := by
  have := (List.getElem?_eq_some_iff.mp h).1
  rw [List.length_take]
  omega
theorem aB_take {p : List Int} {l : List Stm} {i : Nat} {s : Stm} (h : l[i]? = some s) : aB p 0 (l.take (i + 1)) = aB p 0 (l.take i) ++ aS (p ++ [(i : Int)]) s := by
  rw [take_more h, aB_app, len_take h]
  show _ ++ aB p (0 + i) [s] = _
  rw [Nat.zero_add, aB, aB, List.append_nil]
theorem aBs_take {q : List Int} {l : List (List Stm)} {i : Nat} {b : List Stm} (h : l[i]? = some b) : aBs q 0 (l.take (i + 1)) = aBs q 0 (l.take i) ++ aB (q ++ [(i : Int)]) 0 b := by
  rw [take_more h, aBs_app, len_take h]
  show _ ++ aBs q (0 + i) [b] = _
  rw [Nat.zero_add, aBs, aBs, List.append_nil]
mutual
theorem aS_len : ∀ (p : List Int) (s : Stm), (aS p s).length = cS s
  | p, .ite v n a b => by simp only [aS, cS, List.length_cons, List.length_append, aB_len]; omega
  | p, .same v n a b => by simp only [aS, cS, List.length_cons, List.length_append, aB_len]; omega
  | p, .rep n a => by simp only [aS, cS, List.length_cons, aB_len]; omega
  | p, .read v k => rfl
  | p, .set v k => rfl
  | p, .copy v k => rfl
  | p, .print v => rfl
  | p, .say v => rfl
  | p, .wait => rfl
  | p, .stop => rfl
theorem aB_len : ∀ (p : List Int) (k : Nat) (l : List Stm), (aB p k l).length = cB l
  | p, k, [] => rfl
  | p, k, s :: r => by rw [aB, cB, List.length_append, aS_len, aB_len]
end
/-! ### depths -/
def dBs : List (List Stm) → Nat
  | [] => 0
  | b :: r => max (dB b) (dBs r)
theorem dS_eq (s : Stm) : dS s = dBs s.bodies := by cases s <;> simp [dS, Stm.bodies, dBs]
theorem dBs_snoc : ∀ (l : List (List Stm)) (b : List Stm), dBs (l ++ [b]) = max (dBs l) (dB b)
  | [], b => by simp [dBs]
  | c :: r, b => by rw [List.cons_append, dBs, dBs, dBs_snoc r b, Nat.max_assoc]
theorem dB_snoc : ∀ (l : List Stm) (s : Stm), dB (l ++ [s]) = max (dB l) (dS s + 1)
  | [], s => by simp only [List.nil_append, dB]; omega
  | c :: r, s => by rw [List.cons_append, dB, dB, dB_snoc r s, Nat.max_assoc]
end RM

set_option Elab.async false
set_option linter.all false
set_option maxRecDepth 100000
set_option maxHeartbeats 2000000
/-! what == reads of a program's data -/
namespace RM
open PySem PySem.Spec PyProof.Rows L2
theorem noL_tuple {ds : List PyData} (h : noLs ds = true) : noL (.tuple ds) = true := h
theorem let_lt {c : Nat} (h : isLet c = true) : c < 128 := by
  have a : ∀ c ∈ ("abcdefghijklmnopqrstuvwxyz" : Str).cps.toList, c < 128 := by decide +kernel
  exact a c (of_decide_eq_true h)
theorem word_ok {z : Str} (h : isWord z = true) : PyData.strOk z = true := by
  unfold isWord at h
  rw [Bool.and_eq_true] at h
  unfold PyData.strOk
  rw [Array.all_eq_true]
  intro i hi
  have := List.all_eq_true.mp h.2 (z.cps[i]) (by simp)
  exact decide_eq_true (Nat.lt_trans (let_lt this) (by decide))
theorem lay_seq {fl : Bool} {ds : List PyData} (h : PyData.canLayAll0 ds = true) : (seqD fl ds).canLay0 = true := by
  cases fl <;> exact h
theorem dep_seq {fl : Bool} {ds : List PyData} : (seqD fl ds).depth = PyData.depthAll ds + 1 := by
  cases fl <;> simp only [seqD, PyData.depth] <;> rfl
theorem ok_words : ∀ z ∈ (["read", "set", "copy", "print", "say", "wait", "if", "same", "repeat", "stop"] : List Str), PyData.strOk z = true := by decide +kernel
mutual
theorem lay_encS (fl : Bool) : ∀ s : Stm, wS s = true → (encS fl s).canLay0 = true
  | .read v k, h => by
    simp only [wS, Bool.and_eq_true] at h
    simp only [encS, PyData.canLay0, PyData.canLayAll0, word_ok h.1, word_ok h.2, ok_words "read" (by decide), Bool.and_self]
  | .set v n, h => by
    simp only [wS, Bool.and_eq_true] at h
    simp only [encS, PyData.canLay0, PyData.canLayAll0, word_ok h.1, ok_words "set" (by decide), Bool.and_self]
  | .copy v u, h => by
    simp only [wS, Bool.and_eq_true] at h
    simp only [encS, PyData.canLay0, PyData.canLayAll0, word_ok h.1, word_ok h.2, ok_words "copy" (by decide), Bool.and_self]
  | .print v, h => by
    simp only [wS] at h
    simp only [encS, PyData.canLay0, PyData.canLayAll0, word_ok h, ok_words "print" (by decide), Bool.and_self]
  | .say n, h => by
    simp only [encS, PyData.canLay0, PyData.canLayAll0, ok_words "say" (by decide), Bool.and_self]
  | .wait, h => by
    simp only [encS, PyData.canLay0, PyData.canLayAll0, ok_words "wait" (by decide), Bool.and_self]
  | .stop, h => by
    simp only [encS, PyData.canLay0, PyData.canLayAll0, ok_words "stop" (by decide), Bool.and_self]
  | .ite v n a b, h => by
    simp only [wS, Bool.and_eq_true] at h
    simp only [encS, PyData.canLay0, PyData.canLayAll0, word_ok h.1.1, lay_seq (lay_encB fl a h.2.1), lay_seq (lay_encB fl b h.2.2), ok_words "if" (by decide), Bool.and_self]
  | .same v u a b, h => by
    simp only [wS, Bool.and_eq_true] at h
    simp only [encS, PyData.canLay0, PyData.canLayAll0, word_ok h.1.1, word_ok h.1.2, lay_seq (lay_encB fl a h.2.1), lay_seq (lay_encB fl b h.2.2), ok_words "same" (by decide), Bool.and_self]
  | .rep n a, h => by
    simp only [wS, Bool.and_eq_true] at h
    simp only [encS, PyData.canLay0, PyData.canLayAll0, lay_seq (lay_encB fl a h.2), ok_words "repeat" (by decide), Bool.and_self]
theorem lay_encB (fl : Bool) : ∀ l : List Stm, wB l = true → PyData.canLayAll0 (encB fl l) = true
  | [], _ => by simp only [encB, PyData.canLayAll0]
  | s :: r, h => by
    simp only [wB, Bool.and_eq_true] at h
    simp only [encB, PyData.canLayAll0, lay_encS fl s h.1, lay_encB fl r h.2, Bool.and_self]
end
mutual
theorem dep_encS (fl : Bool) : ∀ s : Stm, (encS fl s).depth ≤ 2 * dS s + 1
  | .read v k => by simp [encS, PyData.depth, PyData.depthAll]
  | .set v n => by simp [encS, PyData.depth, PyData.depthAll]
  | .copy v u => by simp [encS, PyData.depth, PyData.depthAll]
  | .print v => by simp [encS, PyData.depth, PyData.depthAll]
  | .say n => by simp [encS, PyData.depth, PyData.depthAll]
  | .wait => by simp [encS, PyData.depth, PyData.depthAll]
  | .stop => by simp [encS, PyData.depth, PyData.depthAll]
  | .ite v n a b => by
    have h1 := dep_encB fl a
    have h2 := dep_encB fl b
    simp only [encS, PyData.depth, PyData.depthAll, dep_seq, dS]
    omega
  | .same v u a b => by
    have h1 := dep_encB fl a
    have h2 := dep_encB fl b
    simp only [encS, PyData.depth, PyData.depthAll, dep_seq, dS]
    omega
  | .rep n a => by
    have h1 := dep_encB fl a
    simp only [encS, PyData.depth, PyData.depthAll, dep_seq, dS]
    omega
theorem dep_encB (fl : Bool) : ∀ l : List Stm, PyData.depthAll (encB fl l) + 1 ≤ 2 * dB l
  | [] => by simp [encB, PyData.depthAll, dB]
  | s :: r => by
    have h1 := dep_encS fl s
    have h2 := dep_encB fl r
    simp only [encB, PyData.depthAll, dB]
    omega
end
theorem shaped_encB {fl : Bool} {l : List Stm} (h : wB l = true) (hd : dB l ≤ 4) : SeqAt.shaped (seqD fl (encB fl l)) = true := by
  unfold SeqAt.shaped
  rw [lay_seq (lay_encB fl l h), dep_seq, decide_eq_true (by have := dep_encB fl l; omega)]
  rfl
theorem eqv_encB {fl : Bool} {l : List Stm} (h : wB l = true) : PyData.eqv (seqD fl (encB fl l)) (seqD fl (encB fl l)) = true := SeqAt.eqv_refl _ (lay_seq (lay_encB fl l h))
theorem encB_get {fl : Bool} {l : List Stm} {i : Nat} {d : PyData} (h : (encB fl l)[i]? = some d) : ∃ s, l[i]? = some s ∧ d = encS fl s := by
  rw [encB_map, List.getElem?_map] at h
  obtain ⟨s, hs, e⟩ := Option.map_eq_some_iff.mp h
  exact ⟨s, hs, e.symm⟩
theorem ty_seq {K : PySem.W.Frag} {H0 H : Hp} {a : Addr} {xs : List V} (h : SqL K H0 a xs ∨ SqT K H0 a xs) (e : Same H0 H) : ∃ t, TyX K H (.ref a) t ∧ PySem.W.kitAny K t [.type "list", .type "tuple"] = some true := by
  rcases h with h | h
  · exact ⟨.type "list", tyL (e.seq h), kitAny_cons (b := true) (kit_ty (by decide +kernel)) (fun z => by cases z) (fun _ => rfl)⟩
  · exact ⟨.type "tuple", tyT (smT e h), kitAny_cons (b := false) (kit_ty (by decide +kernel)) (fun _ => kitAny_cons (b := true) (kit_ty (by decide +kernel)) (fun z => by cases z) (fun _ => rfl)) (fun z => by cases z)⟩
theorem strs_inv {K : PySem.W.Frag} {H : Hp} : ∀ {zs : List Str} {vs : List V}, DpAll K H vs (zs.map .str) → vs = zs.map V.str
  | [], _, h => DpAll.nil_inv h
  | z :: zs, _, h => by
    obtain ⟨v, r, rfl, h1, h2⟩ := DpAll.cons_inv h
    rw [Dp.str_inv h1, strs_inv h2]
    rfl
theorem word_read (s : Stm) : s.word = "read" ↔ ∃ v k, s = .read v k := by
  constructor
  · intro h
    cases s <;> first | exact ⟨_, _, rfl⟩ | exact absurd (show _ = (_ : Str) from h) (by simp only [Stm.word]; decide)
  · rintro ⟨v, k, rfl⟩
    rfl
theorem paired_eq {α : Type} {f : α → V} : ∀ {ys : List V} {l : List α}, Paired (fun y a => y = f a) ys l → ys = l.map f
  | _, _, .nil => rfl
  | _, _, .cons h t => by rw [h, paired_eq t]; rfl
theorem atI_nat0 {α : Type} {xs : List α} {i : Nat} {v : α} (h : xs[i]? = some v) : atI xs (0 + (i : Nat) : Int) = some v := by rw [Int.zero_add]; exact atI_nat h
theorem mk_sm {H H' : Hp} {x dx C : Addr} (hx : H x = none) (hdx : H dx = none) (e : ∀ b u, b ≠ x → (upd (upd H dx (.own x)) x (.ins C dx [])) b = some u → H' b = some u) : Same H H' := fun b u z => by
  refine e b u (ne_of_none z hx) ?_
  rw [upd_ne (ne_of_none z hx), upd_ne (ne_of_none z hdx)]
  exact z
theorem mk_in {H : Hp} {x dx C : Addr} (hx : H x = none) (hdx : H dx = none) (hne : dx ≠ x) : Same H (upd (upd H dx (.own x)) x (.ins C dx [])) :=
  smNew (smNew1 hdx _) (by rw [upd_ne hne.symm]; exact hx) _
/-- x[i], x a list or a tuple -/
def rIxA (K : PySem.W.Frag) : R2 := fun x y H Q => ∃ p xs i v, x = .ref p ∧ y = .int i ∧ (SqL K H p xs ∨ SqT K H p xs) ∧ atI xs i = some v ∧ Q v H
theorem ix_any {X : Cx} : IxR X (rIxA X.K) := by
  intro value slice pins s σ H x y v u Q I rx ry h hs
  obtain ⟨p, xs, i, v', e1, e2, h | h, h2, q⟩ := h
  · exact ix_list value slice pins s σ H x y v u Q I rx ry ⟨p, xs, i, v', e1, e2, h, h2, q⟩ hs
  · exact ix_tup value slice pins s σ H x y v u Q I rx ry ⟨p, xs, i, v', e1, e2, h, h2, q⟩ hs
end RM

set_option Elab.async false
set_option linter.all false
set_option maxRecDepth 100000
set_option maxHeartbeats 2000000
namespace RM
open PySem PySem.Spec PyProof.Rows L2
/-! ### own exception classes: what the head tells -/
/-- an exception class with its own __init__ -/
def oexB (K : PySem.W.Frag) (C : Addr) : Bool :=
  (match K.lookup C with
    | some ⟨.type t, _, .cls cd, sl⟩ => (match cd.mro, sl.toList with
      | .ref c :: bm, [_, _, _, _, some (.builtin n), _] => decide (t = "type") && (decide (c = C) && (decide (n = "ValueError.__new__") && ((!cd.hasDel) && (cd.hasDict && PySem.HandSPX.refsVE bm))))
      | _, _ => false)
    | _ => false) &&
  (He.eqO (PySem.W.findIn K (.ref C) "__setattr__") (some (some (.builtin "object.__setattr__"))) && (decide (PySem.W.subIn K (.ref C) (.type "BaseException") = some true) &&
    (decide (PySem.W.typeIn K (.ref C) = some (.type "type")) && PySem.W.keepIn K (.ref C))))
theorem oexB_ok {K : PySem.W.Frag} {C : Addr} (h : oexB K C = true) : OexC K C := by
  obtain ⟨h0, h⟩ := He.ba h
  obtain ⟨h1, h⟩ := He.ba h
  obtain ⟨h2, h⟩ := He.ba h
  obtain ⟨h3, h4⟩ := He.ba h
  refine ⟨?_, He.eqO_ok h1, of_decide_eq_true h2, of_decide_eq_true h3, h4⟩
  split at h0
  case h_2 => cases h0
  case h_1 t dd cd sl lk =>
    split at h0
    case h_2 => cases h0
    case h_1 c bm k0 k1 k2 k3 n k5 hm hsl =>
      obtain ⟨q1, h0⟩ := He.ba h0
      obtain ⟨q2, h0⟩ := He.ba h0
      obtain ⟨q3, h0⟩ := He.ba h0
      obtain ⟨q4, h0⟩ := He.ba h0
      obtain ⟨q5, q6⟩ := He.ba h0
      have e1 := of_decide_eq_true q1
      have e2 := of_decide_eq_true q2
      have e3 := of_decide_eq_true q3
      have e4 : cd.hasDel = false := by simpa using q4
      obtain ⟨l⟩ := sl
      have e6 : l = [k0, k1, k2, k3, some (.builtin n), k5] := hsl
      cases cd
      simp only at hm e4 q5
      subst hm e1 e2 e3 e4 q5 e6
      exact ⟨_, _, _, _, _, _, _, _, _, _, _, _, _, _, _, lk, q6⟩
/-- X(), X an own exception class without own __init__ -/
theorem pmk_exc0 {X : Cx} {x : Str} {p pos : Pos} (q : PySem.W.excIn X.K (He.ga X.K x) He.veBase "ValueError.__new__" = true ∧ PySem.W.keepIn X.K (.ref (He.ga X.K x)) = true ∧ PySem.W.subIn X.K (.ref (He.ga X.K x)) (.type "BaseException") = some true ∧
      PySem.W.typeIn X.K (.ref (He.ga X.K x)) = some (.type "type")) (gC : X.mg x = some (.ref (He.ga X.K x))) (hg : Gl X x := by rfl) (hdb : (x == ("__debug__" : Str)) = false := by decide) :
    PMk X (.Call (.Name x p) [] [] pos) (fun _ H Q => Q (.ref (He.ga X.K x)) none H) := by
  obtain ⟨q1, q2, q3, q4⟩ := q
  intro pins s σ H Q I h
  refine wpAny_Call_Name_kw (ld_glob I hg gC ?_ hdb)
  refine PySem.W.callWith_K0 I.kIn q2 ?_
  obtain ⟨bm, N, nm, qn, bs, hd, sn, sub, ab, col, dd, k0, k1, k2, k3, k5, mN, hC, hN, hni, T⟩ := exc_obj I.kIn q1
  exact wpAny_call_exc_subT F.excBase_ValueError T hC hN hni (fun h' e hm => mk_of I hm (raises_own q3 q4) h (I.hok.gone hm.new)) (by show 0 ≤ sizeLine; exact Nat.zero_le _)
/-! ### defs that let exceptions out -/
section
variable {P : Program} {w : World} {K : PySem.W.Frag} {mg : Str → Option Value} {base : Heap} {k : Nat} {x m : Str} {C : Addr} {sp : Sp}
/-- the body's form -/
def BodyX (P : Program) (w : World) (K : PySem.W.Frag) (mg : Str → Option Value) (base : Heap) (N : List Str) (qual : Str) (st : Stmt) (f : Addr) (k : Nat) (sp : Sp) : Prop :=
  ∀ (cdv : Value) (A : Around) (outer : List Env) (s : Shared) (H : Hp) (vs : List V) (Q : VK) (E : XK), Room k (A.deeper (envOfC qual (defScope st) s.heap.objs.size f cdv)) → sp vs H Q E →
    ∃ t, PSs (cxOf (L2.CX P w) P w K mg base N qual (defScope st) f cdv A outer s H E) (defBody st) t ∧ t { nx := fun _ H' => Q .non H', rt := Q } (start N vs) H
theorem cal_X {st : Stmt} {f : Addr} {N ps : List Str} (F : ∃ fd, FunD K x x (defArgs st) (defBody st) (defScope st) [] [] f fd) (hm : mg x = some (.ref f)) (S : FnScope N ps (defScope st))
    (hb : ∀ (kV doc pm : Value) (an : Option Addr) (cdv ct : Value) (us : List Value), us.length = ps.length → bindArgs (PySem.W.fnOf x x (defArgs st) (defBody st) (defScope st) .none kV doc pm an cdv ct) ⟨us, []⟩ = pure (ps.zip us))
    (len : ∀ vs H Q E, sp vs H Q E → vs.length = ps.length) (h : BodyX P w K mg base N x st f k sp) : Cal P w K mg base (L2.CX P w) (k + 1) x sp :=
  let ⟨fd, F⟩ := F
  ⟨f, fd, ps, F.ok S len h, hm, F.kp, F.bindsN hb⟩
theorem mak_X {qual : Str} {st : Stmt} {f : Addr} {N ps : List Str} (F : ∃ fd, FunD K "__init__" qual (defArgs st) (defBody st) (defScope st) [] [] f fd) (M : Mk K C f) (hm : mg x = some (.ref C)) (S : FnScope N ps (defScope st))
    (hb : ∀ (kV doc pm : Value) (an : Option Addr) (cdv ct : Value) (us : List Value), us.length = ps.length → bindArgs (PySem.W.fnOf "__init__" qual (defArgs st) (defBody st) (defScope st) .none kV doc pm an cdv ct) ⟨us, []⟩ = pure (ps.zip us))
    (len : ∀ vs H Q E, sp vs H Q E → vs.length = ps.length) (h : BodyX P w K mg base N qual st f k sp) : Mak P w K mg base (L2.CX P w) (k + 1) x C sp :=
  let ⟨fd, F⟩ := F
  ⟨f, fd, ps, M, F.ok S len h, hm, F.bindsN hb⟩
theorem calX_never {x : Str} {st : Stmt} {f : Addr} {ps : List Str} {sp : Sp} {k : Nat} (F : ∃ fd, FunD K x x (defArgs st) (defBody st) (defScope st) [] [] f fd) (hm : mg x = some (.ref f))
    (hb : ∀ (kV doc pm : Value) (an : Option Addr) (cdv ct : Value) (us : List Value), us.length = ps.length → bindArgs (PySem.W.fnOf x x (defArgs st) (defBody st) (defScope st) .none kV doc pm an cdv ct) ⟨us, []⟩ = pure (ps.zip us))
    (no : ∀ vs H Q E, ¬ sp vs H Q E) : Cal P w K mg base (L2.CX P w) k x sp :=
  let ⟨fd, F⟩ := F
  ⟨f, fd, ps, ⟨fun vs H Q E h => absurd h (no vs H Q E), fun A outer s H args us vs Q E _ _ _ _ h => absurd h (no vs H Q E)⟩, hm, F.kp, F.bindsN hb⟩
/-- an own exception class: its name, its __init__ -/
def Exo (P : Program) (w : World) (K : PySem.W.Frag) (mg : Str → Option Value) (base : Heap) (k : Nat) (x : Str) (C : Addr) (sp : Sp) : Prop :=
  ∃ (f : Addr) (fd : FuncData) (ps : List Str), OexC K C ∧ Meth K C "__init__" f ∧ FnOk P w K mg base CX0 k f fd ps sp ∧ mg x = some (.ref C) ∧ Binds K fd ps []
end
section
variable {X : Cx} {W : WX} {k j : Nat} {C : Addr} {x m : Str} {sp : Sp} {E : L2.St → XK} {p pos apos : Pos} {e o : Expr} {es : List Expr} {ta : TE} {t : TA}
/-- f(e, ..), f of a promise with exceptions -/
theorem pcX (tk : Takes X W) (c : Cal X.prog X.w X.K X.mg X.base (L2.CX X.prog X.w) k x sp) (hr : Room j X.A) (ha : PA X (e :: es) t) (hk : k ≤ j := by omega) (hg : Gl X x := by rfl)
    (hpl : (backTo pos (starEach es X.env)).any (·.1) = false := by rfl) (he : starEach (e :: es) X.env = (false, eval e X.env) :: starEach es X.env := by rfl) (hdb : (x == ("__debug__" : Str)) = false := by decide) :
    PE X (.Call (.Name x p) (e :: es) [] pos) (tCallS sp (WE W) t) := by
  obtain ⟨f, fd, ps, F, hm, kp, b⟩ := c
  exact pe_callS F (hr.mono hk) hg hm kp b (fun σ => passAt tk σ) ha hdb he hpl
/-- C(e, ..): a new instance; E at the slots -/
def tMakeS (C : Addr) (sp : Sp) (E : L2.St → XK) (t : TA) : TE := fun σ H Q => t σ H fun vs H1 => ∀ x dx, H1 x = none → H1 dx = none → dx ≠ x →
  sp (.ref x :: vs) (upd (upd H1 dx (.own x)) x (.ins C dx [])) (fun v H2 => v = .non ∧ Q (.ref x) H2) (E σ)
theorem pmkX (tk : Takes X W) (c : Mak X.prog X.w X.K X.mg X.base (L2.CX X.prog X.w) k x C sp) (hr : Room j X.A) (ha : PA X (e :: es) t) (hk : k + 1 ≤ j := by omega) (hg : Gl X x := by rfl)
    (hpl : (backTo pos (starEach es X.env)).any (·.1) = false := by rfl) (he : starEach (e :: es) X.env = (false, eval e X.env) :: starEach es X.env := by rfl) (hdb : (x == ("__debug__" : Str)) = false := by decide) :
    PE X (.Call (.Name x p) (e :: es) [] pos) (tMakeS C sp (WE W) t) := by
  obtain ⟨f, fd, ps, M, F, hm, b⟩ := c
  constructor
  intro pins s σ H Q I h
  refine wpAny_Call_Name_kw (ld_glob I hg hm ?_ hdb)
  refine PySem.W.callWith_K (h₀ := X.base) I.ok.mod.kin M.kp (thn (ha.run pos pins s σ H _ I h) ?_) he hpl
  rintro us s1 ⟨vs, H1, I1, r, q⟩
  refine ⟨I1.kIn, ?_⟩
  have f1 : H1 (s1.heap.objs.size + 1) = none := I1.hok.fresh (Nat.le_succ _)
  have f2 : H1 s1.heap.objs.size = none := I1.hok.fresh (Nat.le_refl _)
  have q1 := q _ _ f1 f2 (Nat.ne_of_lt (Nat.lt_succ_self _))
  have J := Inv.made (C := C) I1
  have rr : Vals (V.ref (s1.heap.objs.size + 1) :: vs) (Value.ref (s1.heap.objs.size + 1) :: us) := .cons rfl r
  have ll : (Value.ref (s1.heap.objs.size + 1) :: us).length = ps.length := rr.length.symm.trans (F.len _ _ _ _ q1)
  have bb := b _ (Value.ref (s1.heap.objs.size + 1) :: us) J.kIn (by rw [List.append_nil]; exact ll)
  rw [List.append_nil] at bb
  refine wpAny_call (make_map (f := f) I1.kIn M.makes M.init (beq_iff_eq.mp M.fn) (codeAny_mono (F.run _ X.stack _ _ ⟨Value.ref (s1.heap.objs.size + 1) :: us, []⟩ _ _ _ _ ((hr.mono hk).make C us []) (J.env0.make C us []) bb rr q1) ?_))
  intro r2 s2 z
  match r2, z with
  | .error y, z => exact passAt tk σ pins _ _ y s2 J z
  | .ok (.ret y), z =>
    obtain ⟨v, H2, J2, rv, rfl, q2⟩ := J.after z
    exact ⟨rv, V.ref (s1.heap.objs.size + 1), H2, J2, rfl, q2⟩
/-- raise C(e, ..), C with its own __init__ -/
theorem ps_raiseX {pos2 : Pos} (tk : Takes X W) (c : Exo X.prog X.w X.K X.mg X.base k x C sp) (hr : Room j X.A) (ha : PA X (e :: es) t) (hc : X.calm = true := by rfl) (hk : k + 1 ≤ j := by omega) (hg : Gl X x := by rfl)
    (hpl : (backTo pos (starEach es X.env)).any (·.1) = false := by rfl) (he : starEach (e :: es) X.env = (false, eval e X.env) :: starEach es X.env := by rfl) (hdb : (x == ("__debug__" : Str)) = false := by decide) :
    PS X (.Raise (some (.Call (.Name x p) (e :: es) [] pos)) none pos2) (fun _ σ H => tMkO C sp [] t σ H fun cls d H' => W cls d σ H') := by
  obtain ⟨f, fd, ps, T, M, F, hm, b⟩ := c
  exact ps_raise hc tk (pmk_oex T M.at_ (beq_iff_eq.mp M.fn) F (hr.mono hk) b .nil pass0 hg hm ha hdb he hpl)
end
/-! ### except clauses, each with or without a name -/
/-- an exception stands caught at the foot of the try -/
def Caught (X : Cx) (pins : List (Addr × Obj)) (σ : L2.St) (H : Hp) (cls : Value) (d : Option Addr) (a : Addr) (s : Shared) : Prop :=
  H a = none ∧ ∃ (B : Heap) (sI : Shared), Inv X pins σ H sI ∧ (∀ b o, sI.heap.get? b = some o → b ∉ frs X.stack → B.get? b = some o) ∧ sI.heap.UpToSlots s.heap ∧ HandSPX.FlyingZ B X.stack a (Zc cls d) s.heap ∧ s.os = sI.os ∧ AllBare s.gens
section
variable {X : Cx} {pins : List (Addr × Obj)} {σ : L2.St} {H : Hp} {cls : Value} {d : Option Addr} {a : Addr} {s : Shared}
theorem Caught.inv (c : Caught X pins σ H cls d a s) : Inv X pins σ H s :=
  let ⟨_, _, _, I, nb, up, fl, os, ag⟩ := c; I.landed nb fl.1 up os ag
theorem Caught.obj (c : Caught X pins σ H cls d a s) : ∃ oe vs, s.heap.get? a = some oe ∧ Zc cls d oe ∧ oe.data = .fields vs :=
  let ⟨_, _, _, _, _, _, fl, _, _⟩ := c; fl.there
theorem Caught.far (c : Caught X pins σ H cls d a s) : a ∉ frs X.stack := by
  obtain ⟨_, _, _, _, _, _, fl, _, _⟩ := c
  obtain ⟨oe, vs, e, _, dd⟩ := fl.there
  intro hm
  obtain ⟨_, o, e', hnf⟩ := fl.2.2.1.mem hm
  rw [e] at e'
  exact hnf vs (Option.some.inj e' ▸ dd)
theorem Caught.suite (c : Caught X pins σ H cls d a s) (hs : X.stack = X.env :: X.outer) (hf : X.env.frame = some X.env.locals) :
    ∃ oe, (Zc cls d oe ∧ ∃ vs, oe.data = .fields vs) ∧ s.heap.get? a = some oe ∧ Inv (X.suite a ((a, oe) :: (X.pn ++ pins))) [] σ H s := by
  obtain ⟨oe, vs, e, z, dd⟩ := c.obj
  have nf := c.far
  rw [hs] at nf
  refine ⟨oe, ⟨z, vs, dd⟩, e, c.inv.suite e dd c.1 (fun h => nf ?_) fun h => nf ?_⟩
  · exact List.mem_filterMap.mpr ⟨X.env, List.mem_cons_self, by rw [hf, h]⟩
  · obtain ⟨u, hu, q⟩ := List.mem_filterMap.mp h
    exact List.mem_filterMap.mpr ⟨u, List.mem_cons_of_mem _ hu, q⟩
theorem Caught.again {M : Model} {A : Around} {Q : Unit → Shared → Prop} {E : Value → Shared → Prop} (c : Caught X pins σ H cls d a s) (h : ∀ s', Caught X pins σ H cls d a s' → Q () s') : wpAny M A (setFlight (.ref a) none) Q E s := by
  obtain ⟨na, B, sI, I, nb, up, fl, os, ag⟩ := c
  exact HandSPX.lands_againZ fl fun h' fl' up' => h _ ⟨na, B, sI, I, nb, up.trans up', fl', os, ag⟩
/-- what a row of clauses wishes, read at the ends -/
def Hds (X : Cx) (hds : List ExceptHandler) (wv : Ends → WX) : Prop :=
  ∀ (pins : List (Addr × Obj)) (D : Ends) (σ : L2.St) (H : Hp) (cls : Value) (d : Option Addr) (a : Addr) (s : Shared), Caught X pins σ H cls d a s → wv D cls d σ H → wpAny (model X.prog X.w) X.A (handleBy (.ref a) X.env hds) (SP X pins D) X.xe s
theorem hds_nil {W : WX} (tk : Takes X W) (hf : X.env.frame = some X.env.locals := by rfl) : Hds X [] (fun _ => W) := by
  intro pins D σ H cls d a s c w
  refine wpAny_handleBy_nil ?_
  obtain ⟨na, B, sI, I, nb, up, fl, os, ag⟩ := c
  obtain ⟨_, _, _, oe, vs, T, _, _, e, _, dd, h1, _⟩ := id fl
  unfold PySem.passOn
  refine wpAny_bind (wpAny_field e dd h1 ?_)
  rw [if_neg (by simp)]
  have out : wpAny (model X.prog X.w) X.A (setFlight (.ref a) X.env.frame) (fun _ s' => wpAny (model X.prog X.w) X.A (throw (.ref a) : Sem Flow) (SP X pins D) X.xe s') X.xe s := by
    rw [hf]
    exact HandSPX.setFlight_upZ fl fun h' hh up' => wpAny_throw (tk _ _ ⟨a, B, sI, pins, σ, H, cls, d, rfl, I, nb, up.trans up', .inr (.inr hh), na, os, ag, w⟩)
  first
    | exact wpAny_bind (wpAny_pure (wpAny_bind out))
    | exact wpAny_bind out
/-- the clause's class is looked at -/
theorem hd_test {x : Str} {np : Pos} {c : Value} {b : Bool} {Q : Bool → Shared → Prop} {E : Value → Shared → Prop} {R : Result → Shared → Prop} {pos' : Pos} (hc : Names X x c) (k : Caught X pins σ H cls d a s) (hs : X.stack = X.env :: X.outer) (hf : X.env.frame = some X.env.locals)
    (hb : PySem.W.exmOne X.K cls c = some b) (h : R (.ok (if b = true then .brk else .next)) s) : codeAny (model X.prog X.w) (X.A.mark (some (.ref a))) (.handlers (.ref a) [.ExceptHandler (some (.Name x np)) none [] pos'] X.env) R s := by
  obtain ⟨oe, ⟨z, _⟩, e, S⟩ := k.suite hs hf
  refine codeAny_handlers_test ?_
  have tyl : PySem.W.Looks (model X.prog X.w) s.heap (typeOf (.ref a)) cls := fun A Q E s k q => wpAny_typeOf_ref (k _ _ e) (by rw [z.1]; exact q)
  have fit := (PySem.W.exm_one (M := model X.prog X.w) k.inv.kIn tyl hb).here (A := X.A.mark (some (.ref a))) (E := notedBy (model X.prog X.w) (X.A.mark (some (.ref a))) X.env fun x s₁ => R (.error x) s₁)
    (Q := fun b s₂ => R (.ok (if b then .brk else .next)) s₂) (s := s) h
  obtain ⟨hg, hd, hm | ⟨hm, hv, hn⟩⟩ := hc
  · exact ld_glob S hg hm fit hd
  · exact ld_blt S hg hm hv fit hn hd
/-- except x: suite -/
def wCl (K : PySem.W.Frag) (c : Value) (ts : Addr → Value → Option Addr → L2.TS) (wr : Ends → WX) : Ends → WX := fun D cls d σ H =>
  ∃ b, PySem.W.exmOne K cls c = some b ∧ (if b = true then ∀ a, H a = none → ts a cls d D σ H else wr D cls d σ H)
/-- the slot of the clause's name is emptied behind -/
def Ends.gone (i : Nat) (D : Ends) : Ends := { nx := fun σ H => D.nx (σ.set i none) H, rt := D.rt, bk := fun σ H => D.bk (σ.set i none) H, ct := fun σ H => D.ct (σ.set i none) H }
/-- except x as n: suite -/
def wClA (K : PySem.W.Frag) (c : Value) (i : Nat) (ts : Addr → Value → Option Addr → L2.TS) (wr : Ends → WX) : Ends → WX := fun D cls d σ H =>
  ∃ b, PySem.W.exmOne K cls c = some b ∧ (if b = true then ∀ a, H a = none → ts a cls d (Ends.gone i D) (σ.set i (some (.ref a))) H else wr D cls d σ H)
theorem hds_cl {x : Str} {np pos' : Pos} {c : Value} {ts : Addr → Value → Option Addr → L2.TS} {b₀ : Stmt} {su : List Stmt} {hds : List ExceptHandler} {wr : Ends → WX} (hc : Names X x c)
    (hsu : ∀ (a : Addr) (oe : Obj) (cls : Value) (d : Option Addr) (pn : List (Addr × Obj)), Zc cls d oe → (∃ vs, oe.data = .fields vs) → PSs (X.suite a ((a, oe) :: pn)) (b₀ :: su) (ts a cls d)) (r : Hds X hds wr)
    (ok : X.Ok → True := fun _ => trivial) (hs : X.stack = X.env :: X.outer := by rfl) (hf : X.env.frame = some X.env.locals := by rfl) : Hds X (.ExceptHandler (some (.Name x np)) none (b₀ :: su) pos' :: hds) (wCl X.K c ts wr) := by
  rintro pins D σ H cls d a s k ⟨b, hb, w⟩
  refine wpAny_handleBy_cons (hd_test (Q := fun _ _ => True) (E := fun _ _ => True) hc k hs hf hb ?_) (fun q => by cases q)
  cases b with
  | false => exact r pins D σ H cls d a s k w
  | true =>
    refine codeAny_handlers_suite (k.again fun s1 k1 => ?_)
    obtain ⟨oe, ⟨z, dd⟩, _, S⟩ := k1.suite hs hf
    refine wpAny_mono ((hsu a oe cls d (X.pn ++ pins) z dd).run [] s1 σ H _ S (w a k.1)) (fun f s2 q => ?_) (fun _ _ q => False.elim q)
    have back : ∀ {σ2 H2}, Inv (X.suite a ((a, oe) :: (X.pn ++ pins))) [] σ2 H2 s2 → Inv X pins σ2 H2 s2 := fun J => J.unsuite k.inv.ok
    match f, q with
    | .ret u, ⟨v, σ2, H2, J, q⟩ => exact ⟨v, σ2, H2, back J, q⟩
    | .next, ⟨σ2, H2, J, q⟩ => exact ⟨σ2, H2, back J, q⟩
    | .brk, ⟨σ2, H2, J, q⟩ => exact ⟨σ2, H2, back J, q⟩
    | .cont, ⟨σ2, H2, J, q⟩ => exact ⟨σ2, H2, back J, q⟩
theorem hds_as {x n : Str} {np pos' : Pos} {c : Value} {i : Nat} {ts : Addr → Value → Option Addr → L2.TS} {b₀ : Stmt} {su : List Stmt} {hds : List ExceptHandler} {wr : Ends → WX} (hN : X.N.Nodup) (hi : X.N[i]? = some n) (hln : X.env.kindOf n = some .local) (hc : Names X x c)
    (hsu : ∀ (a : Addr) (oe : Obj) (cls : Value) (d : Option Addr) (pn : List (Addr × Obj)), Zc cls d oe → (∃ vs, oe.data = .fields vs) → PSs (X.suite a ((a, oe) :: pn)) (b₀ :: su) (ts a cls d)) (r : Hds X hds wr)
    (hs : X.stack = X.env :: X.outer := by rfl) (hf : X.env.frame = some X.env.locals := by rfl) : Hds X (.ExceptHandler (some (.Name x np)) (some n) (b₀ :: su) pos' :: hds) (wClA X.K c i ts wr) := by
  rintro pins D σ H cls d a s k ⟨b, hb, w⟩
  refine wpAny_handleBy_cons (hd_test (Q := fun _ _ => True) (E := fun _ _ => True) hc k hs hf hb ?_) (fun q => by cases q)
  cases b with
  | false => exact r pins D σ H cls d a s k w
  | true =>
    refine codeAny_handlers_suite_as (k.again fun s1 k1 => ?_)
    obtain ⟨oe, ⟨z, dd⟩, _, S⟩ := k1.suite hs hf
    refine store_ok (X := X.suite a ((a, oe) :: (X.pn ++ pins))) (v := .ref a) S hN hi (.inl hln) rfl (fun s2 S2 => ?_) (.inr hln)
    refine wpAny_mono ((hsu a oe cls d (X.pn ++ pins) z dd).run [] s2 _ H _ S2 (w a k.1)) (fun f s3 q => ?_) (fun _ _ q => False.elim q)
    have back : ∀ {σ3 : L2.St} {H3 : Hp} {Q : Unit → Shared → Prop}, Inv (X.suite a ((a, oe) :: (X.pn ++ pins))) [] σ3 H3 s3 → (∀ s4, Inv X pins (σ3.set i none) H3 s4 → Q () s4) →
      wpAny (model X.prog X.w) X.A (do bindName X.env n .none; unbindBehindTheSuite X.env n pos') Q X.xe s3 := fun J g => gone_ok (J.unsuite k.inv.ok) hN hi hln g
    match f, q with
    | .ret u, ⟨v, σ3, H3, J, q⟩ => exact back J fun s4 J4 => ⟨v, _, H3, J4, q⟩
    | .next, ⟨σ3, H3, J, q⟩ => exact back J fun s4 J4 => ⟨_, H3, J4, q⟩
    | .brk, ⟨σ3, H3, J, q⟩ => exact back J fun s4 J4 => ⟨_, H3, J4, q⟩
    | .cont, ⟨σ3, H3, J, q⟩ => exact back J fun s4 J4 => ⟨_, H3, J4, q⟩
/-- try: body / the clauses -/
theorem ps_tryG {body : List Stmt} {h₀ : ExceptHandler} {hds : List ExceptHandler} {wv : Ends → WX} {tb : WX → L2.TS} {pos : Pos}
    (hb : ∀ (W : WX) (pn : List (Addr × Obj)) (xe : Value → Shared → Prop), Takes (X.tr pn xe) W → PSs (X.tr pn xe) body (tb W)) (hh : Hds X (h₀ :: hds) wv)
    (hs : X.stack = X.env :: X.outer := by rfl) (hf : X.env.frame = some X.env.locals := by rfl) : PS X (.Try body (h₀ :: hds) [] [] pos) (fun D σ H => tb (wv D) D σ H) := by
  constructor
  intro pins s σ H D I h
  have ok := I.ok
  have hfr : X.A.frames = some (X.env :: X.outer) := ok.frames.trans (by rw [hs])
  let xe2 : Value → Shared → Prop := fun e s₁ => wpAny (model X.prog X.w) X.A (noteFrame e X.env) (fun _ s₂ => wpAny (model X.prog X.w) X.A (setFlight e none) (fun _ s₃ =>
    wpAny (model X.prog X.w) X.A (handleBy e X.env (h₀ :: hds)) (SP X pins D) X.xe s₃) X.xe s₂) X.xe s₁
  have tk : Takes (X.tr (X.pn ++ pins) xe2) (wv D) := by
    rintro u s' ⟨a, B, sI, pins', σ', H', cls, d, rfl, J, nb, up, sky, na, os, ag, w⟩
    have sky2 : Sky B (X.env :: X.outer) a (Zc cls d) X.env.locals s'.heap := hs ▸ sky
    refine Sky.land Zc.steady hfr hf sky2 fun h3 fl up3 => ?_
    exact hh pins D σ' H' cls d a { s' with heap := h3 } ⟨na, B, sI, J.ofTry ok, nb, up.trans up3, hs ▸ fl, os, ag⟩ w
  refine wpAny_Try_except (wpAny_mono ((hb (wv D) _ _ tk).run [] s σ H D (I.toTry _) h) (fun f s1 q => ?_) (fun _ _ q => q))
  match f, q with
  | .next, ⟨σ2, H2, J, q⟩ => exact wpAny_execs_nil ⟨σ2, H2, J.ofTry ok, q⟩
  | .ret u, ⟨v, σ2, H2, J, q⟩ => exact ⟨v, σ2, H2, J.ofTry ok, q⟩
  | .brk, ⟨σ2, H2, J, q⟩ => exact ⟨σ2, H2, J.ofTry ok, q⟩
  | .cont, ⟨σ2, H2, J, q⟩ => exact ⟨σ2, H2, J.ofTry ok, q⟩
end
end RM

set_option Elab.async false
set_option linter.all false
set_option maxRecDepth 100000
set_option maxHeartbeats 2000000
namespace RM
open PySem PySem.Spec PyProof.Rows L2
/-- the dict at N has no keys but these -/
def keysB (K : PySem.W.Frag) (N : Addr) (ws : List Str) : Bool :=
  match K.lookup N with
  | some ⟨_, _, .dict es _, _⟩ => es.toList.all fun e => match e.key with
    | .str z _ => decide (z ∈ ws)
    | _ => false
  | _ => false
theorem keysB_no {K : PySem.W.Frag} {N : Addr} {ws : List Str} (h : keysB K N ws = true) {w : Str} (hw : w ∉ ws) : PySem.W.nsIn K N w = some none := by
  unfold keysB at h
  split at h
  case h_2 => cases h
  case h_1 c d es n sl lk =>
    unfold PySem.W.nsIn
    rw [lk]
    dsimp only
    have key : ∀ e ∈ es.toList, ∃ z t, e.key = .str z t ∧ z ∈ ws := fun e he => by
      have := List.all_eq_true.mp h e he
      split at this
      · rename_i z t hk
        exact ⟨z, t, hk, of_decide_eq_true this⟩
      · cases this
    have f : es.toList.find? (·.key.isStr w) = none := by
      rw [List.find?_eq_none]
      intro e he
      obtain ⟨z, t, hk, hz⟩ := key e he
      rw [hk]
      intro q
      have : z = w := by simpa [Value.isStr] using q
      exact hw (this ▸ hz)
    rw [f]
    have g : es.toList.any (·.refKey) = false := by
      rw [List.any_eq_false]
      intro e he
      obtain ⟨z, t, hk, _⟩ := key e he
      unfold DictEntry.refKey
      rw [hk]
      simp
    dsimp only
    rw [g]
    rfl
end RM

set_option Elab.async false
set_option linter.all false
set_option maxRecDepth 100000
/-! own exception classes: none is a subclass of another, all are ValueErrors -/
namespace RM
open PySem PySem.Spec PyProof.Rows L2
def excCB (K : PySem.W.Frag) (D : Addr) : Bool :=
  He.eqO (PySem.W.findIn K (.ref D) "__getattribute__") (some (some (.builtin "BaseException.__getattribute__"))) && (He.eqO (PySem.W.findIn K (.ref D) "__getattr__") (some none) && (decide (PySem.W.subIn K (.ref D) (.type "BaseException") = some true) && (PySem.W.hasDictIn K D && (He.eqO (PySem.W.findIn K (.ref D) "__class__") (some (some (.builtin "object.__class__"))) &&
    (He.eqO (PySem.W.specialIn K (.builtin "object.__class__") "__get__") (some (some (.builtin "getset_descriptor.__get__"))) && (decide (PySem.W.takesIn K (.builtin "object.__class__") = some true) && decide (PySem.W.mroIn K D (.type "object") = some true)))))))
theorem excCB_ok {K : PySem.W.Frag} {D : Addr} (h : excCB K D = true) : ExcC K D := by
  obtain ⟨h1, h⟩ := He.ba h
  obtain ⟨h2, h⟩ := He.ba h
  obtain ⟨h3, h⟩ := He.ba h
  obtain ⟨h4, h⟩ := He.ba h
  obtain ⟨h5, h⟩ := He.ba h
  obtain ⟨h6, h⟩ := He.ba h
  obtain ⟨h7, h8⟩ := He.ba h
  exact ⟨He.eqO_ok h1, He.eqO_ok h2, of_decide_eq_true h3, h4, He.eqO_ok h5, He.eqO_ok h6, of_decide_eq_true h7, of_decide_eq_true h8⟩
def kindsB (K : PySem.W.Frag) (ns : List Str) : Bool := ns.all fun x => excCB K (He.ga K x) && (decide (PySem.W.kitOne K (.ref (He.ga K x)) (.type "ValueError") = some true) && ns.all fun y => decide (PySem.W.kitOne K (.ref (He.ga K x)) (.ref (He.ga K y)) = some (decide (x = y))))
theorem kindsB_ok {K : PySem.W.Frag} {ns : List Str} (h : kindsB K ns = true) {x : Str} (hx : x ∈ ns) : ExcC K (He.ga K x) ∧ PySem.W.kitOne K (.ref (He.ga K x)) (.type "ValueError") = some true ∧ ∀ y ∈ ns, PySem.W.kitOne K (.ref (He.ga K x)) (.ref (He.ga K y)) = some (decide (x = y)) := by
  have h1 := List.all_eq_true.mp h x hx
  obtain ⟨a, b⟩ := He.ba h1
  obtain ⟨b, c⟩ := He.ba b
  exact ⟨excCB_ok a, of_decide_eq_true b, fun y hy => of_decide_eq_true (List.all_eq_true.mp c y hy)⟩
end RM

set_option Elab.async false
set_option linter.all false
set_option maxRecDepth 100000
set_option maxHeartbeats 2000000
/-! sets of texts that can be walked: which texts, not their order -/
namespace RM
open PySem PySem.Spec PyProof.Rows L2 PySem.Froz
/-! ### the table: it rises, and its order is told -/
def Wk (w : World) (t : SetTable) : Prop := Ris t.place.toList ∧ (w.params.followText "set-order" = true ∨ t.led = true)
theorem Wk.of {w : World} {t u : SetTable} (k : Wk w t) (h : Ris t.place.toList → Ris u.place.toList) (e : u.led = t.led) : Wk w u := ⟨h k.1, k.2.imp_right fun l => by rw [e, l]⟩
theorem Wk.tail {w : World} {ep : Nat} {es : Array (Int × Value)} {t : SetTable} {b : Bool} (k : Wk w t) : Wk w (tailTx ep es t b).2.2 := by
  by_cases c : (!b && t.tooFull) = true
  · rw [tailTx, if_pos c]
    exact k.of (fun _ => relayAll_ris t es _) (relayAll_led t es _)
  · rw [tailTx, if_neg c]
    exact k
theorem Wk.add {w : World} {z : Int} {v : Value} {D : SD} (k : Wk w D.2.2) : Wk w (addTx z v D).2.2 := by
  rw [addTx]
  have k1 : Wk w (layNew D.2.2 D.1 z v).2.1 := k.of (layNew_ris D.2.2 D.1 z v) (layNew_led D.2.2 D.1 z v)
  by_cases c : (layNew D.2.2 D.1 z v).2.1.plain = true
  · rw [if_pos c]
    exact Wk.tail (t := { (layNew D.2.2 D.1 z v).2.1 with plain := false }) ⟨k1.1, k1.2⟩
  · rw [if_neg c]
    exact k1.tail
/-! ### what is known of such a set -/
structure Txs (P : Program) (w : World) (D : SD) (l : List Str) : Prop where
  ok : TxOk P w D l
  nd : l.Nodup
  wk : Wk w D.2.2
  few : l.length < scanBound
/-- at a stands a set of the texts l -/
def SX (P : Program) (w : World) (h : Heap) (a : Addr) (l : List Str) : Prop := ∃ D : SD, h.get? a = some (sObj "set" D) ∧ Txs P w D l
/-- an empty set as the world makes it -/
abbrev bareX (w : World) : Obj := { cls := .type "set", dict := none, data := .set #[] 0 (.fresh 0 0 (!w.params.followText "set-order")) }
section
variable {P : Program} {w : World} {h h' : Heap} {a : Addr} {l : List Str}
theorem SX.at (R : SX P w h a l) (k : ∀ o, h.get? a = some o → h'.get? a = some o) : SX P w h' a l := R.imp fun _ q => ⟨k _ q.1, q.2⟩
theorem SX.some (R : SX P w h a l) : ∃ o, h.get? a = some o := let ⟨_, e, _⟩ := R; ⟨_, e⟩
theorem sx_fresh (e : h.get? a = some (bareX w)) : SX P w h a [] := by
  refine ⟨(#[], 0, .fresh 0 0 (!w.params.followText "set-order")), e, .nil rfl, List.nodup_nil, ⟨List.Pairwise.nil, ?_⟩, by decide⟩
  by_cases c : w.params.followText "set-order" = true
  · exact .inl c
  · exact .inr (by show (!w.params.followText "set-order") = true; rw [Bool.not_eq_true] at c; rw [c]; rfl)
end
/-- k put to l, if it isn't there -/
def insX (k : Str) (l : List Str) : List Str := if k ∈ l then l else k :: l
theorem insX_mem {k x : Str} {l : List Str} : x ∈ insX k l ↔ x = k ∨ x ∈ l := by
  rw [insX]
  by_cases c : k ∈ l
  · rw [if_pos c]
    exact ⟨Or.inr, fun z => z.elim (fun e => e ▸ c) id⟩
  · rw [if_neg c, List.mem_cons]
theorem insX_len {k : Str} {l : List Str} : (insX k l).length ≤ l.length + 1 := by
  rw [insX]
  by_cases c : k ∈ l
  · rw [if_pos c]; omega
  · rw [if_neg c]; exact Nat.le_refl _
/-! ### a text put in -/
section
variable {P : Program} {w : World} {A : Around} {E : Value → Shared → Prop} {s : Shared} {a : Addr} {l : List Str} {k : Str} {u : Tok}
theorem texts_at {D : SD} (F : TxOk P w D l) (hk : k ∈ l) : ∃ j, List.findIdx? (fun e => (strKind P w).is k e.2) D.1.toList = some j := by
  obtain ⟨e, he, z⟩ := (F.mem k).mp hk
  rw [← Option.isSome_iff_exists, List.findIdx?_isSome, List.any_eq_true]
  exact ⟨e, he, z⟩
/-- one that is there already: nothing happens -/
theorem again_x {D : SD} {Q : Bool → Shared → Prop} (e : s.heap.get? a = some (sObj "set" D)) (F : Txs P w D l) (hk : k ∈ l) (q : Q false s) : wpAny (model P w) A (setAddHashed a (.str k u) (hashStr w k)) Q E s := by
  obtain ⟨j, hj⟩ := texts_at F.ok hk
  have few : D.1.size < scanBound := by rw [F.ok.sz]; exact F.few
  unfold setAddHashed setAddHashedIn
  refine wpAny_holding (wpAny_bind (wpAny_setState_of (es := D.1) (ep := D.2.1) (t := D.2.2) e rfl F.ok.fit ?_))
  dsimp only
  rw [byScan_of (knd := strKind P w) (x := Value.str k u) rfl few F.ok.el]
  rw [if_pos rfl]
  unfold setAddByScan
  refine wpAny_bind (wpAny_bind (wpAny_rule (wpAny_bind (wpAny_setScan_of (knd := strKind P w) (k := k) (es := D.1) (ep := D.2.1) (t := D.2.2) (is_str k u) e rfl F.ok.fit F.ok.el ?_))))
  rw [hj]
  exact wpAny_pure (wpAny_pure q)
/-- setAdd's step behind the hash -/
theorem put_x {Q : Bool → Shared → Prop} (R : SX P w s.heap a l) (room : l.length + 1 < scanBound) (q : ∀ b h', Heap.SameBut a s.heap h' → SX P w h' a (insX k l) → Q b { s with heap := h' }) :
    wpAny (model P w) A (setAddHashed a (.str k u) (hashStr w k)) Q E s := by
  obtain ⟨D, e, F⟩ := id R
  rw [insX] at q
  by_cases c : k ∈ l
  · rw [if_pos c] at q
    exact again_x e F c (q false s.heap (Heap.SameBut.refl a _) R)
  · rw [if_neg c] at q
    refine add_x e F.ok c room (q true _ (Heap.SameBut.update _ _ _) ⟨_, get_upd _ e rfl, add_ok u F.ok, List.nodup_cons.mpr ⟨c, F.nd⟩, F.wk.add, ?_⟩)
    rw [List.length_cons]
    exact room
/-- the whole of setAdd -/
theorem setAdd_x {Q : Bool → Shared → Prop} (R : SX P w s.heap a l) (room : l.length + 1 < scanBound) (q : ∀ b h', Heap.SameBut a s.heap h' → SX P w h' a (insX k l) → Q b { s with heap := h', toks := s.toks + 1 }) :
    wpAny (model P w) A (setAdd a (.str k u)) Q E s := by
  unfold setAdd
  exact wpAny_holding (wpAny_bind ((strKind P w).pyHash (is_str k u) (put_x (s := { s with toks := s.toks + 1 }) R room q)))
/-- s.add(text) -/
theorem call_add_x {Q : Value → Shared → Prop} (R : SX P w s.heap a l) (room : l.length + 1 < scanBound) (q : ∀ h', Heap.SameBut a s.heap h' → SX P w h' a (insX k l) → Q .none { s with heap := h', toks := s.toks + 1 }) :
    wpAny (model P w) A (call (.builtin "set.add") [.ref a, .str k u]) Q E s := by
  have ty : s.TypeIs (.ref a) "set" := let ⟨_, e, _⟩ := R; ⟨_, e, rfl⟩
  refine wpAny_call_entry F.slot_set_add ty F.entry_set_add ?_ (F.args_set_add_2 _ _)
  show wpAny _ _ (setAdd a (.str k u) >>= fun _ => ret Value.none) _ _ s
  exact wpAny_bind (setAdd_x R room fun _ h' sb r => wpAny_pure ⟨_, rfl, q h' sb r⟩)
end
/-! ### as a tracked thing -/
def SetX (P : Program) (w : World) (a : Addr) (l : List Str) : HO := .ext fun h => SX P w h a l
theorem setX_new {P : Program} {w : World} {H : Hp} {h : Heap} {a : Addr} {l : List Str} (R : SX P w h a l) : ObjOk P w H h a (SetX P w a l) := ⟨R, R.some, fun _ _ p k => SX.at p k⟩
section
variable {X : Cx} {pins : List (Addr × Obj)} {σ : L2.St} {H : Hp} {s : Shared}
theorem Txs.of {a : Addr} {l : List Str} (I : Inv X pins σ H s) (e : H a = some (SetX X.prog X.w a l)) : SX X.prog X.w s.heap a l := (I.hok a _ e).1
theorem addX_ok {E : Value → Shared → Prop} {A : Around} {D : Addr} {l : List Str} {k : Str} {u : Tok} {Q : Value → Shared → Prop} (I : Inv X pins σ H s) (hD : H D = some (SetX X.prog X.w D l)) (room : l.length + 1 < scanBound)
    (q : ∀ s', Inv X pins σ (upd H D (SetX X.prog X.w D (insX k l))) s' → Q .none s') : wpAny (model X.prog X.w) A (call (.builtin "set.add") [.ref D, .str k u]) Q E s :=
  call_add_x (Txs.of I hD) room fun _ sb R => q _ (I.write (by rw [hD]; trivial) (.inl rfl) (fun b o ne e => by rw [sb.2 b ne]; exact e) R.some (setX_new R))
end
end RM

set_option Elab.async false
set_option linter.all false
set_option maxRecDepth 100000
set_option maxHeartbeats 4000000
/-! set comprehensions, clause by clause: one theorem of a clause's loop, whatever stands behind its tests -/
namespace RM
open PySem PySem.Spec PyProof.Rows L2 PpSet
/-- the slots that the block keeps are known still -/
def Kept (σ σ' : L2.St) : Prop := ∀ (j : Nat) v, σ[j]? = some (some v) → σ'[j]? = some (some v)
theorem kept_wipe (σ : L2.St) (vs : List Nat) : Kept (wipe σ vs) σ := fun _ _ e => (wipe_some e).1
theorem kept_less {σ : L2.St} {vs ws : List Nat} (h : ∀ i ∈ ws, i ∈ vs) : Kept (wipe σ vs) (wipe σ ws) := fun j v e => by
  obtain ⟨e1, e2⟩ := wipe_some e
  rw [wipe_out fun z => e2 (h j z), e1]
/-- one turn's text: `work` behind the tests -/
def turnText (e : Expr) (k : Nat) (tg : Expr) (p : Pos) (ifs : List Expr) (work : Sem Unit) (it acc : Value) (env : Env) : Sem Fin :=
  standAt p >>= fun _ => pyNext it >>= fun r => match r with
    | none => pure (.done .next)
    | some v => letOwnedTupleGo tg it v >>= fun _ => assign tg env v >>= fun _ =>
      (forIn ifs true fun c r => if r = true then isTrue c env (eval c env) >>= fun ok => pure (ForInStep.yield ok) else pure (ForInStep.yield r)) >>= fun ok =>
        if ok = true then work >>= fun _ => again (.compLoop e k it acc env) else again (.compLoop e k it acc env)
section
variable {Y : Cx} {elt : Expr} {gens : List Comprehension} {scope : Scope} {pos : Pos} {k : Nat} {tg : Expr} {p : Pos} {ifs : List Expr} {work : Sem Unit} {it : Addr} {acc : Value} {pins : List (Addr × Obj)} {fp : List Addr} {tn : Nat → Heap → Prop} {J : It}
  {g : TG} {tt : TT} {wk : L2.St → Hp → (Hp → Prop) → Prop} {σ0 : L2.St} {vs : List Nat} {W : Nat → Nat → Hp → Prop} {fin : Hp → Prop} {R : Result → Shared → Prop}
theorem clause_loop (hY : Y.xe = fun _ _ => False) (hc : Y.calm = true) (he : compTurn (.SetComp elt gens scope pos) k (.ref it) acc Y.env = turnText (.SetComp elt gens scope pos) k tg p ifs work (.ref it) acc Y.env)
    (T : Turn Y.prog Y.w Y.K tg J fp it tn) (own : ∀ b ∈ fp, ∃ H, FpOk Y pins H b) (pg : PG Y tg g) (pt : PTs Y ifs tt)
    (pw : ∀ pl σ H N s, Inv Y (pins ++ pl) σ H s → wk σ H N → wpAny (model Y.prog Y.w) Y.A work (fun _ s' => ∃ σ' H', Inv Y (pins ++ pl) σ' H' s' ∧ Kept (wipe σ vs) σ' ∧ N H') (fun _ _ => False) s)
    (tu : Turns J g tt wk σ0 vs W fin) (hR : ∀ H s, Inv Y pins σ0 H s → fin H → R (.ok .next) s) {m i : Nat} {H : Hp} {s : Shared} (I : Inv Y pins σ0 H s) (st : tn i s.heap) (fr : ∀ b ∈ fp, H b = none) (w : W i m H) :
    codeAny (model Y.prog Y.w) Y.A (.compLoop (.SetComp elt gens scope pos) k (.ref it) acc Y.env) R s := by
  have out : ∀ {H : Hp}, (∀ b ∈ fp, H b = none) → ∀ b ∈ fp, FpOk Y pins H b := fun f b hb => let ⟨_, z⟩ := own b hb; ⟨f b hb, z.2⟩
  refine codeAny_loop rfl (fun n s' => ∃ i H', Inv Y pins σ0 H' s' ∧ tn i s'.heap ∧ (∀ b ∈ fp, H' b = none) ∧ W i n H') ?_ m ⟨i, H, I, st, fr, w⟩
  clear I st fr w
  rintro n s ⟨i, H, I, st, fr, w⟩
  show wpAny _ Y.A ((compTurn (.SetComp elt gens scope pos) k (.ref it) acc Y.env).onRaise fun x => noteFrame x Y.env >>= fun _ => theTreesLotGoes x) _ _ s
  refine wpAny_noted ?_
  rw [he, turnText]
  refine wpAny_bind (wpAny_standAt (wpAny_bind ?_))
  rcases tu i n H w with ⟨stop, q⟩ | ⟨go, N, hN, step⟩
  · refine thnF (T.done Y rfl rfl rfl hc i pins s σ0 H _ I (out fr) st stop) fun r s1 z => ?_
    rw [z.1]
    exact wpAny_pure (hR H s1 z.2 q)
  refine thnF (T.item Y rfl rfl rfl hc i pins s σ0 H _ I (out fr) st go) fun r s1 z => ?_
  obtain ⟨u, rfl, z⟩ := z
  refine wpAny_bind (thnF z fun _ s2 z => ?_)
  obtain ⟨x, H2, I2, rx, y, st2, fr2⟩ := z
  -- what a turn's end asks
  have fine : ∀ {σ' : L2.St} {H' : Hp} {s' : Shared}, Inv Y (pins ++ pinsAt fp s2.heap) σ' H' s' → Kept σ0 σ' → N H' → ∃ n', n' < n ∧ ∃ i H', Inv Y pins σ0 H' s' ∧ tn i s'.heap ∧ (∀ b ∈ fp, H' b = none) ∧ W i n' H' := by
    intro σ' H' s' I' kp nx
    obtain ⟨n', lt, w'⟩ := hN H' nx
    have stays : ∀ b ∈ fp, ∀ o, s2.heap.get? b = some o → s'.heap.get? b = some o ∧ H' b = none := fun b hb o eo => by
      obtain ⟨p1, p2, _⟩ := I'.pin (b, o) (List.mem_append.mpr (.inr (List.mem_append.mpr (.inr (mem_pinsAt hb eo)))))
      exact ⟨p1, p2⟩
    refine ⟨n', lt, i + 1, H', I'.unpinned.weak (I.len.trans I'.len.symm) kp, T.keep _ _ _ st2 fun b hb o eo => (stays b hb o eo).1, fun b hb => ?_, w'⟩
    obtain ⟨o, eo, _⟩ := T.obj _ _ st2 b hb
    exact (stays b hb o eo).2
  have pgr := pg.run _ s2 σ0 H2 x u _ (I2.pinned (out fr2) (T.obj _ _ st2)) rx (step x H2 y)
  rw [hY] at pgr
  refine wpAny_bind (thnF pgr fun _ s3 z => ?_)
  obtain ⟨σ3, H3, I3, e3, z⟩ := z
  have ptr := pt.run _ s3 σ3 H3 _ I3 z
  rw [hY] at ptr
  refine wpAny_bind (thnF ptr fun b s4 z => ?_)
  obtain ⟨H4, I4, z⟩ := z
  by_cases hb : b = true
  · rw [if_pos hb] at z ⊢
    refine wpAny_bind (thnF (pw _ σ3 H4 N s4 I4 z) fun _ s5 z => ?_)
    obtain ⟨σ5, H5, I5, kp, nx⟩ := z
    exact wpAny_pure ⟨rfl, fine I5 (e3 ▸ kp) nx⟩
  · rw [if_neg hb] at z ⊢
    exact wpAny_pure ⟨rfl, fine I4 (e3 ▸ kept_wipe σ3 vs) z⟩
end
/-- a clause's start: its iterator is asked for itself, or not; the loop then -/
theorem clause_start {P : Program} {w : World} {A : Around} {R : Result → Shared → Prop} {s : Shared} {elt : Expr} {gens : List Comprehension} {scope : Scope} {pos : Pos} {k : Nat} {g : Comprehension} {it acc : Value} {env : Env}
    (hg : gens[k]? = some g) (ha : g.is_async = 0) (self : ∀ (Q : Value → Shared → Prop) (E : Value → Shared → Prop), Q it s → wpAny (model P w) A (pyIter it) Q E s)
    (loop : codeAny (model P w) A (.compLoop (.SetComp elt gens scope pos) k it acc env) R s) : codeAny (model P w) A (.compStart (.SetComp elt gens scope pos) k it acc env) R s := by
  refine codeAny_of_tree ?_
  show wpAny _ A ((compStart (.SetComp elt gens scope pos) k it acc env).onRaise fun x => noteFrame x env >>= fun _ => standAt theWindowsPlace) _ _ s
  refine wpAny_notedAt ?_
  have hk : (clausesOf (.SetComp elt gens scope pos))[k]? = some g := hg
  unfold compStart
  rw [hk]
  have hn : ((some g).elim false fun c : Comprehension => c.is_async != 0) = false := by
    show (g.is_async != 0) = false
    rw [ha]; rfl
  rw [hn]
  show wpAny _ _ (ask >>= _) _ _ s
  refine wpAny_bind (wpAny_askSetting ?_)
  show wpAny _ _ (if w.params.followText "comprehension-iter-twice" = true then _ else _) _ _ s
  by_cases c : w.params.followText "comprehension-iter-twice" = true
  · rw [if_pos c]
    exact wpAny_bind (wpAny_pure (wpAny_pure ⟨rfl, loop⟩))
  · rw [if_neg c]
    exact wpAny_bind (wpAny_rule (wpAny_bind (wpAny_standAt (wpAny_bind (self _ _ (wpAny_pure ⟨rfl, loop⟩))))))
section
variable {X : Cx}
/-- in each block with this scope -/
abbrev InBlk (X : Cx) (scope : Scope) (F : Cx → Prop) : Prop := ∀ s H C cl fp, F (X.blk s H scope (compEnvC scope cl C X.env) fp)
/-- a new text is put to D -/
abbrev addsX (P : Program) (w : World) (D : Addr) (te : TE) : L2.St → Hp → (Hp → Prop) → Prop := fun σ H N => te σ H fun y H1 => ∃ (c : Str) (l : List Str), y = .str c ∧ H1 D = some (SetX P w D l) ∧ l.length + 1 < scanBound ∧ N (upd H1 D (SetX P w D (insX c l)))
/-- a set comprehension's reading: wk, what is done behind the first clause's tests -/
def tBlk (P : Program) (w : World) (wi : TI) (g : TG) (tt : TT) (wk : Addr → L2.St → Hp → (Hp → Prop) → Prop) (vs : List Nat) : TE := fun σ H Q => wi σ H fun J H1 => ∀ D, H1 D = none →
  ∃ W : Nat → Nat → Hp → Prop, (∃ m, W 0 m (upd H1 D (SetX P w D []))) ∧ Turns J g tt (wk D) (wipe σ vs) vs W (Q (.ref D))
theorem set_block {elt tg iter : Expr} {ifs : List Expr} {rest : List Comprehension} {scope : Scope} {own : List (Str × Nat)} {pos : Pos} {wi : TI} {g : TG} {tt : TT} {wk : Addr → L2.St → Hp → (Hp → Prop) → Prop} {work : Addr → Env → Sem Unit}
    (hc : X.calm = true) (hN : X.N.Nodup) (hi : PI X tg iter wi) (ok : BlkOk X.N X.env.scope scope own)
    (hg : InBlk X scope fun Y => PG Y tg g)
    (ht : InBlk X scope fun Y => PTs Y ifs tt)
    (he : ∀ it D env, compTurn (.SetComp elt (⟨tg, iter, ifs, 0⟩ :: rest) scope pos) 0 (.ref it) (.ref D) env = turnText (.SetComp elt (⟨tg, iter, ifs, 0⟩ :: rest) scope pos) 0 tg iter.pos ifs (work D env) (.ref it) (.ref D) env)
    (pw : ∀ (s0 : Shared) (H0 : Hp) (C : Addr) (cl : List (Str × Addr)) (fp : List Addr) (D : Addr) pins σ H N s, Inv (X.blk s0 H0 scope (compEnvC scope cl C X.env) fp) pins σ H s → wk D σ H N →
      wpAny (model X.prog X.w) X.A (work D (compEnvC scope cl C X.env)) (fun _ s' => ∃ σ' H', Inv (X.blk s0 H0 scope (compEnvC scope cl C X.env) fp) pins σ' H' s' ∧ Kept (wipe σ (own.map (·.2))) σ' ∧ N H') (fun _ _ => False) s)
    (hs : ∀ x, foldedSetIterable iter X.env x = pure x) : PE X (.SetComp elt (⟨tg, iter, ifs, 0⟩ :: rest) scope pos) (tBlk X.prog X.w wi g tt wk (own.map (·.2))) := by
  refine ⟨fun pins s σ H Q I h => ?_⟩
  rw [eval_SetComp]
  have free : ∀ y ∈ scope.names, y.2 = .free → ∃ c, X.env.cells.lookup y.1 = some c := fun y hy e => I.ok.has _ (ok.free y hy e)
  refine wpAny_comprehension_free (use := none) rfl hs (closure_ok free) ok.kind (fun y hy e => e ▸ ok.uniq y hy) (thn (hi.run pins s σ H _ I h) fun _ _ z => thn z fun _ s2 z => ?_)
  obtain ⟨it, fp, tn, J, H2, rfl, I2, T, st2, f2, q⟩ := z
  refine newSet_ok (newEnv_comp ?_)
  obtain ⟨W, ⟨m0, w0⟩, tu⟩ := q s2.heap.objs.size (I2.hok.fresh (Nat.le_refl _))
  have I3 := I2.laid (t' := s2.toks) (a := s2.heap.objs.size) (fun b o e => Heap.get?_push_of_some (bareX X.w) e) (Nat.le_refl _) (setX_new (sx_fresh (Heap.get?_push_size _ rfl)))
  have young : ∀ b ∈ fp, b < s2.heap.objs.size := fun b hb => let ⟨_, e, _⟩ := T.obj _ _ st2 b hb; Heap.lt_size e
  have st3 := T.keep 0 _ (s2.heap.push (bareX X.w)) st2 fun b _ o e => Heap.get?_push_of_some _ e
  have f3 : ∀ b ∈ fp, FpOk X pins (upd H2 s2.heap.objs.size (SetX X.prog X.w s2.heap.objs.size [])) b := fun b hb => ⟨by rw [upd_ne (Nat.ne_of_lt (young b hb))]; exact (f2 b hb).1, (f2 b hb).2⟩
  have old : ∀ b ∈ fp, b < (s2.heap.push (bareX X.w)).objs.size := fun b hb => by rw [Heap.size_push]; exact Nat.lt_succ_of_lt (young b hb)
  generalize upd H2 s2.heap.objs.size (SetX X.prog X.w s2.heap.objs.size []) = H3 at I3 f3 w0
  generalize s2.heap.objs.size = D at I3 tu ⊢
  generalize hs3 : ({ s2 with heap := s2.heap.push (bareX X.w) } : Shared) = s3 at I3
  have e3 : s3.heap = s2.heap.push (bareX X.w) := by rw [← hs3]
  rw [← e3] at st3 old
  have I4 := block_start I3 ok hN fun b hb => ⟨f3 b hb, old b hb⟩
  have st4 := T.keep 0 _ (pushCells (s3.heap.push { cls := .type "dict", data := .dict #[] }) scope.names) st3 fun b _ o e => pushCells_keeps _ _ _ _ (Heap.get?_push_of_some _ e)
  show codeAny _ _ (.compStart _ 0 (.ref it) (.ref D) (compEnvC scope (cellsFrom (s3.heap.objs.size + 1) scope.names (cloFrom X.env.cells scope.names [])) s3.heap.objs.size X.env)) _
    { s3 with heap := pushCells (s3.heap.push { cls := .type "dict", data := .dict #[] }) scope.names }
  refine clause_start rfl rfl (fun _ _ z => T.self X.A 0 _ _ _ st4 z) ?_
  refine clause_loop (Y := X.blk s3 H3 scope (compEnvC scope (cellsFrom (s3.heap.objs.size + 1) scope.names (cloFrom X.env.cells scope.names [])) s3.heap.objs.size X.env) fp) rfl hc (he _ _ _) T
    (fun b hb => ⟨H3, (f3 b hb).1, (I4.ok.exf b hb).1, I4.ok.exfs b hb, .inl hb, fun x c e => (I4.ok.exf b hb).2 x c e, fun p hp => (List.not_mem_nil (show p ∈ ([] : List (Addr × Obj)) from hp)).elim⟩) (hg _ _ _ _ _) (ht _ _ _ _ _) (fun pl σ' H' N s' I' z => pw _ _ _ _ _ D _ _ _ _ _ I' z) tu (fun H' s' I' q => ?_) I4 st4 (fun b hb => (f3 b hb).1) w0
  -- back in the def
  have J' := I3.call' (ch := fp) I'.os I'.base I'.hok I'.bare fun b hb => let ⟨_, z1, _, z3, z4, z5⟩ := f3 b hb; ⟨z3, z1, z4, z5⟩
  obtain ⟨m, hm, _⟩ := I'.loc
  obtain ⟨n0, n1, n2, n3, n4, n5⟩ := I3.fpOk (H' := H') (Nat.le_refl _) I'.free
  exact ⟨m, hm, fun h'' sb => ⟨.ref D, H', J'.turned (t' := s'.toks) (fun b o hb e => (sb.2 b hb).trans e) n0 n1 n3 n4 n5, rfl, q⟩⟩
/-- the element's text, then its add -/
def emitX (elt : Expr) (D : Addr) (env : Env) : Sem Unit := eval elt env >>= fun v => standAt elt.pos >>= fun _ => call (.builtin "set.add") [.ref D, v] >>= fun _ => pure ()
theorem emits {Y : Cx} {elt : Expr} {te : TE} {D : Addr} {vs : List Nat} (hY : Y.xe = fun _ _ => False) (he : PE Y elt te) {pins σ H N s} (I : Inv Y pins σ H s) (h : addsX Y.prog Y.w D te σ H N) :
    wpAny (model Y.prog Y.w) Y.A (emitX elt D Y.env) (fun _ s' => ∃ σ' H', Inv Y pins σ' H' s' ∧ Kept (wipe σ vs) σ' ∧ N H') (fun _ _ => False) s := by
  have r := he.run pins s σ H _ I h
  rw [hY] at r
  refine wpAny_bind (thnF r fun v s1 z => wpAny_bind (wpAny_standAt (wpAny_bind ?_)))
  obtain ⟨_, H1, I1, rv, c, l, rfl, e, room, nx⟩ := z
  obtain ⟨u, rfl⟩ := (show ∃ u, v = Value.str c u from rv)
  exact addX_ok I1 e room fun s2 I2 => wpAny_pure ⟨σ, _, I2, kept_wipe σ vs, nx⟩
/-- {elt for tg in iter if ..} -/
abbrev tScX (P : Program) (w : World) (wi : TI) (g : TG) (tt : TT) (te : TE) (vs : List Nat) : TE := tBlk P w wi g tt (fun D => addsX P w D te) vs
theorem pe_scX {elt tg iter : Expr} {ifs : List Expr} {scope : Scope} {own : List (Str × Nat)} {pos : Pos} {wi : TI} {g : TG} {tt : TT} {te : TE} (hc : X.calm = true) (hN : X.N.Nodup) (hi : PI X tg iter wi) (ok : BlkOk X.N X.env.scope scope own)
    (hg : InBlk X scope fun Y => PG Y tg g)
    (ht : InBlk X scope fun Y => PTs Y ifs tt)
    (he : InBlk X scope fun Y => PE Y elt te) (hs : ∀ x, foldedSetIterable iter X.env x = pure x := by intro _; rfl) :
    PE X (.SetComp elt [⟨tg, iter, ifs, 0⟩] scope pos) (tScX X.prog X.w wi g tt te (own.map (·.2))) :=
  set_block (work := emitX elt) hc hN hi ok hg ht (fun _ _ _ => rfl) (fun s0 H0 C cl fp D pins σ H N s I h => emits (Y := X.blk s0 H0 scope (compEnvC scope cl C X.env) fp) rfl (he _ _ _ _ _) I h) hs
/-- {elt for tg in iter if .. for tg1 in iter1 if ..}: vs1, the second target's slots -/
abbrev tScX2 (P : Program) (w : World) (wi : TI) (g : TG) (tt : TT) (wi1 : TI) (g1 : TG) (tt1 : TT) (te : TE) (vs vs1 : List Nat) : TE :=
  tBlk P w wi g tt (fun D σ H N => wi1 σ H fun J1 H1 => ∃ W1 : Nat → Nat → Hp → Prop, (∃ m, W1 0 m H1) ∧ Turns J1 g1 tt1 (addsX P w D te) (wipe σ vs1) vs1 W1 N) vs
def innerX (e : Expr) (iter1 : Expr) (D : Addr) (env : Env) : Sem Unit :=
  eval iter1 env >>= fun x => standAt iter1.pos >>= fun _ => foldedSetIterable iter1 env x >>= fun x => holding [x] (pyIter x) >>= fun t => runOwn (.compStart e 1 t (.ref D) env) env >>= fun _ => pure ()
theorem turn_inner {elt tg iter tg1 iter1 : Expr} {ifs ifs1 : List Expr} {scope : Scope} {pos : Pos} {it D : Addr} {env : Env} : compTurn (.SetComp elt [⟨tg, iter, ifs, 0⟩, ⟨tg1, iter1, ifs1, 0⟩] scope pos) 0 (.ref it) (.ref D) env =
    turnText (.SetComp elt [⟨tg, iter, ifs, 0⟩, ⟨tg1, iter1, ifs1, 0⟩] scope pos) 0 tg iter.pos ifs (innerX (.SetComp elt [⟨tg, iter, ifs, 0⟩, ⟨tg1, iter1, ifs1, 0⟩] scope pos) iter1 D env) (.ref it) (.ref D) env := by
  rw [turnText]
  simp only [innerX, bind_assoc, pure_bind]
  rfl
theorem pe_scX2 {elt tg iter tg1 iter1 : Expr} {ifs ifs1 : List Expr} {scope : Scope} {own : List (Str × Nat)} {vs1 : List Nat} {pos : Pos} {wi wi1 : TI} {g g1 : TG} {tt tt1 : TT} {te : TE} (hc : X.calm = true) (hN : X.N.Nodup) (hi : PI X tg iter wi) (ok : BlkOk X.N X.env.scope scope own) (hv : ∀ i ∈ vs1, i ∈ own.map (·.2))
    (hg : InBlk X scope fun Y => PG Y tg g)
    (ht : InBlk X scope fun Y => PTs Y ifs tt)
    (hi1 : InBlk X scope fun Y => PI Y tg1 iter1 wi1)
    (hg1 : InBlk X scope fun Y => PG Y tg1 g1)
    (ht1 : InBlk X scope fun Y => PTs Y ifs1 tt1)
    (he : InBlk X scope fun Y => PE Y elt te) (hs : ∀ x, foldedSetIterable iter X.env x = pure x := by intro _; rfl) (hs1 : ∀ env x, foldedSetIterable iter1 env x = pure x := by intro _ _; rfl) :
    PE X (.SetComp elt [⟨tg, iter, ifs, 0⟩, ⟨tg1, iter1, ifs1, 0⟩] scope pos) (tScX2 X.prog X.w wi g tt wi1 g1 tt1 te (own.map (·.2)) vs1) := by
  refine set_block (work := innerX (.SetComp elt [⟨tg, iter, ifs, 0⟩, ⟨tg1, iter1, ifs1, 0⟩] scope pos) iter1) hc hN hi ok hg ht (fun _ _ _ => turn_inner) (fun s0 H0 C cl fp D pins σ H N s I h => ?_) hs
  refine wpAny_bind (thnF ((hi1 s0 H0 C cl fp).run pins s σ H _ I h) fun x s1 z => wpAny_bind (wpAny_standAt (wpAny_bind (wpAny_of_eq (hs1 _ x) (wpAny_bind (wpAny_holding (thnF z fun t s2 z => ?_)))))))
  obtain ⟨it, fp1, tn, J, H2, rfl, I2, T, st, f, W, ⟨m, w0⟩, tu⟩ := z
  refine wpAny_bind (wpAny_runOwn ?_)
  rw [Around.mark_none]
  exact clause_start rfl rfl (fun _ _ z => T.self X.A 0 _ _ _ st z) (clause_loop (Y := X.blk s0 H0 scope (compEnvC scope cl C X.env) fp) rfl hc (work := emitX elt D (compEnvC scope cl C X.env)) rfl T (fun b hb => ⟨H2, f b hb⟩) (hg1 _ _ _ _ _) (ht1 _ _ _ _ _)
    (fun pl σ' H' N' s' I' z => emits (Y := X.blk s0 H0 scope (compEnvC scope cl C X.env) fp) rfl (he _ _ _ _ _) I' z) tu (fun H' s' I' nx => wpAny_pure ⟨_, H', I', kept_less hv, nx⟩) (I2.weak (wipe_length _ _) (kept_wipe σ vs1)) st (fun b hb => (f b hb).1) w0)
end
end RM

set_option Elab.async false
set_option linter.all false
set_option maxRecDepth 100000
set_option maxHeartbeats 2000000
/-! sorted(a set of texts) -/
namespace RM
open PySem PySem.Spec PyProof.Rows L2 PySem.Froz
/-! ### texts among values -/
def Text (v : Value) : Prop := ∃ k u, v = .str k u
theorem texts_are : ∀ {l : List Value}, (∀ v ∈ l, Text v) → StrsAre l (l.map strOf)
  | [], _ => .nil
  | _ :: _, h => by
    obtain ⟨h1, h2⟩ := List.forall_mem_cons.mp h
    obtain ⟨k, u, rfl⟩ := h1
    exact .cons k u (texts_are h2)
/-- as many, and nothing lacks: the same -/
theorem perm_of_sub : ∀ {l m : List Str}, l.Nodup → (∀ k ∈ l, k ∈ m) → m.length ≤ l.length → m.Perm l
  | [], m, _, _, h => by rw [List.eq_nil_of_length_eq_zero (Nat.le_zero.mp h)]
  | a :: l, m, nd, sub, h => by
    have ha := sub a List.mem_cons_self
    have el := List.length_erase_of_mem ha
    have ep := List.length_pos_of_mem ha
    obtain ⟨na, nd⟩ := List.nodup_cons.mp nd
    refine (List.perm_cons_erase ha).trans ((perm_of_sub nd (fun k hk => ?_) ?_).cons a)
    · have ne : k ≠ a := by rintro rfl; exact na hk
      exact (List.mem_erase_of_ne ne).mpr (sub k (List.mem_cons_of_mem _ hk))
    · rw [List.length_cons] at h; omega
theorem Txs.values {P : Program} {w : World} {D : SD} {l : List Str} (F : Txs P w D l) {vs : List Value} (p : vs.Perm (D.1.toList.map (·.2))) : StrsAre vs (vs.map strOf) ∧ (vs.map strOf).Perm l := by
  have shape : ∀ {k : Str} {v : Value}, (strKind P w).is k v = true → ∃ u, v = .str k u := fun h => Value.isStrOf_shape h
  refine ⟨texts_are fun v hv => ?_, perm_of_sub F.nd (fun k hk => ?_) ?_⟩
  · obtain ⟨e, he, rfl⟩ := List.mem_map.mp (p.mem_iff.mp hv)
    obtain ⟨⟨k, h1, _⟩, _⟩ := F.ok.el e he
    exact ⟨k, shape h1⟩
  · obtain ⟨e, he, h1⟩ := (F.ok.mem k).mp hk
    obtain ⟨u, h2⟩ := shape h1
    exact List.mem_map.mpr ⟨.str k u, p.mem_iff.mpr (List.mem_map.mpr ⟨e, he, h2⟩), rfl⟩
  · rw [List.length_map, p.length_eq, List.length_map, Array.length_toList, F.ok.sz]
    exact Nat.le_refl _
/-! ### sorted, of whatever gives texts -/
section
variable {P : Program} {w : World} {A : Around} {E : Value → Shared → Prop} {s : Shared}
theorem sorted_texts {x : Value} {ks : List Str} {Q : Value → Shared → Prop} (few : ks.length ≤ 1000)
    (gives : wpAny (model P w) A.in1 (collect x) (fun vs s1 => StrsAre vs (vs.map strOf) ∧ (vs.map strOf).Perm ks ∧
      ∀ ys us h' c, StrsAre us ys → ys.Perm ks → sortedS ys = true → (∀ b o, s1.heap.get? b = some o → h'.get? b = some o) → h'.get? s1.heap.objs.size = some (seqObj "list" us.toArray c) → Q (.ref s1.heap.objs.size) { s1 with heap := h' }) E s) :
    wpAny (model P w) A (call (.builtin "sorted") [x]) Q E s := by
  refine Calls.call_function_entry kind_sorted plain_sorted entry_sorted (args_sorted1 _) ?_
  unfold Builtin.«sorted»
  refine wpAny_bind (m := checkCount "sorted" 1 1 _) (wpAny_pure (wpAny_bind (thn gives fun vs s1 z => ?_)))
  obtain ⟨hS, pk, q⟩ := z
  have sz : vs.length ≤ sizeLine := by
    have e := pk.length_eq
    rw [List.length_map] at e
    rw [e, sizeLine_eq]; omega
  refine wpAny_bind (wpAny_newList ?_ sz)
  have at_ : (s1.heap.push (seqObj "list" vs.toArray 0)).get? s1.heap.objs.size = some (seqObj "list" vs.toArray 0) := Heap.get?_push_size _ rfl
  refine wpAny_bind (wpAny_holding (wpAny_call_entry slot_list_sort ⟨_, at_, rfl⟩ entry_list_sort (list_sort_treeKAny strKind_oneLt at_ hS.keysOf (fun _ _ _ e => keyKind_strs (e ▸ hS)) sz fun st' hp hs => ⟨_, rfl, ?_⟩) (args_list_sort _)))
  obtain ⟨ys, h1, h2, h3⟩ := sorted_out_str hS hp hs
  obtain ⟨c, hc⟩ := sortedHeap_at (vs := vs) (out := (arrOf st').map (·.2)) at_
  refine wpAny_pure ⟨_, rfl, q ys _ _ c h1 (h2.trans pk) h3 (fun b o e => ?_) (by rw [Array.toArray_toList]; exact hc)⟩
  have lt := Heap.lt_size e
  rw [sortedHeap_old (Nat.ne_of_lt lt) (by rw [size_push']; exact Nat.lt_succ_of_lt lt)]
  exact Heap.get?_push_of_some _ e
end
def rSortX (P : Program) (w : World) : List V → Hp → VK → Prop := fun xs H Q => ∃ (a : Addr) (l : List Str), xs = [V.ref a] ∧ H a = some (SetX P w a l) ∧ l.length ≤ 1000 ∧
  ∀ (ks : List Str) (p : Addr), ks.Perm l → l.Nodup → sortedS ks = true → H p = none → Q (.ref p) (upd H p (.lst (ks.map V.str)))
theorem cr_sortX {X : Cx} (hc : X.calm = true) : CallR X (.builtin "sorted") (rSortX X.prog X.w) := by
  rintro pins s σ H xs us Q I r ⟨a, l, rfl, e, few, q⟩
  rw [Vals.ref1 r]
  obtain ⟨D, ho, F⟩ := Txs.of I e
  refine sorted_texts few (collect_set (A := X.A.in1) (es := D.1) (ep := D.2.1) (t := D.2.2) (I.ok.hd hc) ⟨_, ho, rfl, rfl⟩ F.ok.fit (by rw [F.ok.sz]; exact F.few) F.wk.1 F.wk.2 fun s1 vs keep _ gs os pm => ?_)
  obtain ⟨t1, t2⟩ := F.values pm
  refine ⟨t1, t2, fun ys us' h' c h1 h2 h3 keep' at_ => ?_⟩
  have I1 : Inv X pins σ H s1 := I.call' (ch := []) os (Un.kept keep) (I.hok.kept keep) (by rw [gs]; exact I.bare) (fun _ z => nomatch z)
  have sz : (ys.map V.str).length ≤ sizeLine := by rw [List.length_map, h2.length_eq, sizeLine_eq]; omega
  exact ⟨.ref s1.heap.objs.size, _, I1.laid (t' := s1.toks) (o := .lst (ys.map V.str)) keep' (Nat.le_refl _) ⟨sz, us', c, vals_of_strs h1, at_⟩, rfl, q ys _ h2 F.nd h3 (I1.hok.fresh (Nat.le_refl _))⟩
end RM

set_option Elab.async false
set_option linter.all false
set_option maxRecDepth 100000
set_option maxHeartbeats 4000000
/-! set(a list of texts) -/
namespace RM
open PySem PySem.Spec PyProof.Rows L2 PySem.Froz
/-- the texts r put to l, one after another -/
def pour : List Str → List Str → List Str
  | [], l => l
  | k :: r, l => pour r (insX k l)
theorem pour_mem {k : Str} : ∀ {r l : List Str}, k ∈ pour r l ↔ k ∈ r ∨ k ∈ l
  | [], l => by simp [pour]
  | a :: r, l => by rw [pour, pour_mem, insX_mem, List.mem_cons]; grind
theorem pour_len : ∀ {r l : List Str}, (pour r l).length ≤ r.length + l.length
  | [], l => by simp [pour]
  | a :: r, l => by
    have := pour_len (r := r) (l := insX a l)
    have := insX_len (k := a) (l := l)
    rw [pour, List.length_cons]
    omega
section
variable {P : Program} {w : World} {A : Around} {R : Result → Shared → Prop} {I S : Addr} {s : Shared}
/-- one turn of the builtin's loop -/
theorem loop_turn (h : wpAny (model P w) A.in1 (pyNext (.ref I)) (fun r s1 => match r with
      | none => R (.ok (.ret .none)) s1
      | some v => wpAny (model P w) A.in1 (setAdd S v) (fun _ s2 => codeAny (model P w) A (.builtin "set.update.loop" ⟨[.ref S, .ref I], []⟩) R s2) (fun e s' => R (.error e) s') s1) (fun e s' => R (.error e) s') s) :
    codeAny (model P w) A (.builtin "set.update.loop" ⟨[.ref S, .ref I], []⟩) R s := by
  refine codeAny_builtin F.entry_set_update_loop ?_
  rw [Around.under_plainId F.plain_set_update_loop _]
  show wpAny _ A.in1 (pyNext (.ref I) >>= _) _ _ s
  refine wpAny_bind (wpAny_mono h (fun r s1 z => ?_) fun _ _ z => z)
  match r, z with
  | none, z => exact wpAny_pure z
  | some v, z => exact wpAny_bind (wpAny_holding (wpAny_mono z (fun _ _ y => wpAny_pure ⟨plainId_quiet F.plain_set_update_loop _, y⟩) fun _ _ y => y))
variable {fp wr : List Addr} {G : Array GenState → Array GenState → Prop} {n : Nat} {Pv : Nat → Value → Prop} {St : Nat → Shared → Prop}
theorem loop_x (W : WalksS P w A.in1 I fp wr G n Pv St) (hS : S ∉ fp) {zs : List Str} (hn : n = zs.length) (hv : ∀ i v, Pv i v → ∃ k u, zs[i]? = some k ∧ v = .str k u) :
    ∀ (r : List Str) (i : Nat) (l : List Str) (s : Shared), zs.drop i = r → i ≤ zs.length → St i s → SX P w s.heap S l → l.length + r.length < scanBound →
      (∀ s', Moved (S :: wr) G s s' → SX P w s'.heap S (pour r l) → R (.ok (.ret .none)) s') → codeAny (model P w) A (.builtin "set.update.loop" ⟨[.ref S, .ref I], []⟩) R s := by
  have out : S ∉ wr := fun h => hS (W.sub _ h)
  have more : ∀ b ∈ wr, b ∈ S :: wr := fun _ hb => List.mem_cons_of_mem _ hb
  intro r
  induction r with
  | nil =>
    intro i l s hd hi st sx _ q
    have e : i = n := by have := List.drop_eq_nil_iff.mp hd; omega
    subst e
    refine loop_turn (W.done s _ _ st fun s1 mv => ?_)
    exact q s1 (mv.mono more) (sx.at fun o e => mv.heap S o out e)
  | cons z r ih =>
    intro i l s hd hi st sx room q
    rw [List.length_cons] at room
    have lt : i < n := by
      have := congrArg List.length hd
      rw [List.length_drop, List.length_cons] at this
      omega
    have hz : zs[i]? = some z := by rw [← List.head?_drop, hd]; rfl
    have hd' : zs.drop (i + 1) = r := by rw [← List.tail_drop, hd]; rfl
    refine loop_turn (W.item i s _ _ lt st fun v s1 hp st1 mv => ?_)
    obtain ⟨k, u, hk, rfl⟩ := hv i v hp
    obtain rfl : z = k := by rw [hz] at hk; exact Option.some.inj hk
    refine setAdd_x (sx.at fun o e => mv.heap S o out e) (by omega) fun _ h' sb sx2 => ?_
    have ne : ∀ b ∈ fp, b ≠ S := fun b hb e => hS (e ▸ hb)
    refine ih (i + 1) _ _ hd' (by omega) (W.frame _ s1 _ _ st1 (Nat.le_succ _) fun b hb o e => by rw [sb.2 b (ne b hb)]; exact e) sx2 (by have := insX_len (k := z) (l := l); omega) fun s2 mv2 sx3 => ?_
    refine q s2 (Moved.trans W.gtrans ((mv.mono more).then_heap (Nat.le_succ _) fun b o hb e => ?_) mv2) sx3
    rw [sb.2 b fun e => hb (e ▸ List.mem_cons_self)]
    exact e
end
section
variable {P : Program} {w : World} {A : Around} {E : Value → Shared → Prop} {s : Shared} {S l : Addr} {items : Array Value} {zs : List Str}
/-- the values of a list of texts, place by place -/
theorem text_at (ht : StrsAre items.toList zs) {i : Nat} {v : Value} (e : items[i]? = some v) : ∃ k u, zs[i]? = some k ∧ v = .str k u := by
  rw [← Array.getElem?_toList] at e
  obtain ⟨k, u, rfl⟩ := ht.all v (List.mem_of_getElem? e)
  refine ⟨k, u, ?_, rfl⟩
  rw [← ht.strs, List.getElem?_map, e]
  rfl
theorem no_set {a : Addr} {Q : Bool → Shared → Prop} (ty : s.TypeIs (.ref a) "list") (q : Q false s) : wpAny (model P w) A (Builtin.Frozenset.isAnySet (.ref a)) Q E s := by
  unfold Builtin.Frozenset.isAnySet
  refine wpAny_bind (wpAny_isInstance ty F.sub_list_set ?_)
  exact wpAny_isInstance ty F.sub_list_frozenset q
/-- an empty set is filled from a list of texts -/
theorem update_x {name : String} {Q : Unit → Shared → Prop} (hh : A.handled = none) (hS : s.heap.get? S = some (bareX w)) (hl : s.heap.IsList l items) (ht : StrsAre items.toList zs) (room : zs.length < scanBound)
    (q : ∀ s', (∀ b o, b ≠ S → s.heap.get? b = some o → s'.heap.get? b = some o) → s'.gens = s.gens → s'.drawn = s.drawn → s'.os = s.os → SX P w s'.heap S (pour zs []) → Q () s') :
    wpAny (model P w) A (Builtin.Frozenset.updateFrom name S (.ref l)) Q E s := by
  have sz : items.size = zs.length := by rw [← Array.length_toList]; exact ht.length
  have ltS := Heap.lt_size hS
  have ty : s.TypeIs (.ref l) "list" := let ⟨_, e, c, _⟩ := hl; ⟨_, e, c⟩
  have ltl : l < s.heap.objs.size := let ⟨_, e, _⟩ := hl; Heap.lt_size e
  have neSl : S ≠ l := by
    rintro rfl
    obtain ⟨o, ho, hcl, _⟩ := hl
    rw [hS] at ho
    cases ho
    exact absurd (show Value.type "set" = Value.type "list" from hcl) (by decide)
  unfold Builtin.Frozenset.updateFrom
  refine wpAny_bind (no_set ty ?_)
  rw [if_neg Bool.false_ne_true]
  refine wpAny_bind (wpAny_typeOf ty ?_)
  rw [if_neg (by decide)]
  refine wpAny_bind (wpAny_pyIter_list hl (wpAny_bind (wpAny_runValue ?_)))
  have W := (Walks.list (prog := P) (w := w) (A := A.in1) (by simp [hh]) s.heap.objs.size l (Nat.ne_of_lt ltl) items).toS
  refine loop_x W ?_ sz (fun i v e => text_at ht e) zs 0 [] _ rfl (Nat.zero_le _) ⟨⟨_, Heap.get?_push_size _ rfl, rfl, rfl⟩, hl.push _⟩ (sx_fresh (Heap.get?_push_of_some _ hS)) (by simp; omega) fun s' mv sx => ?_
  · simp only [List.mem_cons, List.not_mem_nil, or_false, not_or]
    exact ⟨Nat.ne_of_lt ltS, neSl⟩
  · refine wpAny_pure (q s' (fun b o ne e => mv.heap b o ?_ (Heap.get?_push_of_some _ e)) mv.gens mv.drawn mv.os sx)
    simp only [List.mem_cons, List.not_mem_nil, or_false, not_or]
    exact ⟨ne, Nat.ne_of_lt (Heap.lt_size e)⟩
theorem init_x {Q : PySem.Fin → Shared → Prop} (hh : A.handled = none) (hS : s.heap.get? S = some (bareX w)) (hl : s.heap.IsList l items) (ht : StrsAre items.toList zs) (room : zs.length < scanBound)
    (q : ∀ s', (∀ b o, b ≠ S → s.heap.get? b = some o → s'.heap.get? b = some o) → s'.gens = s.gens → s'.drawn = s.drawn → s'.os = s.os → SX P w s'.heap S (pour zs []) → Q (.done (.ret .none)) s') :
    wpAny (model P w) A (Builtin.«set.__init__» ⟨[.ref S, .ref l], []⟩) Q E s := by
  have ty : s.TypeIs (.ref S) "set" := ⟨_, hS, rfl⟩
  unfold Builtin.«set.__init__» noKeywords
  generalize hU : @Builtin.Frozenset.updateFrom = U
  wp_walk
  subst hU
  refine update_x hh hS hl ht room fun s' k1 k2 k3 k4 sx => ?_
  exact wpAny_pure (q s' k1 k2 k3 k4 sx)
/-- what `set(l)` hands back -/
theorem call_set_x {Q : Value → Shared → Prop} (hh : A.handled = none) (hl : s.heap.IsList l items) (ht : StrsAre items.toList zs) (room : zs.length < scanBound)
    (q : ∀ s', (∀ b o, s.heap.get? b = some o → s'.heap.get? b = some o) → s'.gens = s.gens → s'.drawn = s.drawn → s'.os = s.os → SX P w s'.heap s.heap.objs.size (pour zs []) → Q (.ref s.heap.objs.size) s') :
    wpAny (model P w) A (call (.type "set") [.ref l]) Q E s := by
  obtain ⟨_, _, line⟩ := F.called_set.mro
  have maker := F.called_set.made
  have below := F.called_set.sub
  have plain := F.called_set.notType
  have can := F.called_set.canCreate
  have count := F.typeCall_set_1 (.ref l)
  refine wpAny_call (codeAny_of_tree (wpAny_pure ⟨Code.quiet_builtin _ (by decide +kernel), codeAny_builtin F.entry_type_call ?_⟩))
  rw [Around.under_plain (weight_type_call_type "set" [.ref l] []) rfl]
  repeat (any_goals (first | assumption | wp_step))
  refine codeAny_mono (code_set_led1 (.ref l) (E := E) (Q₁ := fun v s1 => v = .ref s.heap.objs.size ∧ s1 = { s with heap := s.heap.push (bareX w) }) ⟨rfl, rfl⟩) fun r s1 z => ?_
  match r, z with
  | .error _, z => exact z
  | .ok .next, z => exact z.elim
  | .ok .brk, z => exact z.elim
  | .ok .cont, z => exact z.elim
  | .ok (.ret _), z =>
  obtain ⟨rfl, rfl⟩ := z
  have hS : (s.heap.push (bareX w)).get? s.heap.objs.size = some (bareX w) := Heap.get?_push_size _ rfl
  have ty : Shared.TypeIs { s with heap := s.heap.push (bareX w) } (.ref s.heap.objs.size) "set" := ⟨_, hS, rfl⟩
  have first := F.called_set.init.lookup
  have bound := F.called_set.init.bind (.ref s.heap.objs.size)
  repeat (any_goals (first | assumption | wp_step))
  refine codeAny_mono (codeAny_call_builtin (R := wants (fun v s2 => v = .none ∧ Q (.ref s.heap.objs.size) s2) E) F.called_set.init.plain F.entry_set_init (check_set_init_1 ty ?_)) fun r s2 z => ?_
  · refine init_x ?_ hS (hl.push _) ht room fun s2 k1 k2 k3 k4 sx => ⟨rfl, q s2 (fun b o e => k1 b o (Nat.ne_of_lt (Heap.lt_size e)) (Heap.get?_push_of_some _ e)) k2 k3 k4 sx⟩
    simp [hh]
  · match r, z with
    | .error _, z => exact z
    | .ok .next, z => exact z.elim
    | .ok .brk, z => exact z.elim
    | .ok .cont, z => exact z.elim
    | .ok (.ret _), z =>
    obtain ⟨rfl, qq⟩ := z
    repeat (any_goals (first | assumption | wp_step))
end
/-! ### over the tracked heap -/
def rSetL (P : Program) (w : World) (K : PySem.W.Frag) : List V → Hp → VK → Prop := fun xs H Q => ∃ (a : Addr) (zs : List Str), xs = [V.ref a] ∧ SqL K H a (zs.map V.str) ∧ zs.length + 1 < scanBound ∧
  ∀ (l : List Str) (p : Addr), l.length ≤ zs.length → (∀ k, k ∈ l ↔ k ∈ zs) → H p = none → Q (.ref p) (upd H p (SetX P w p l))
theorem cr_setL {X : Cx} (hc : X.calm = true) : CallR X (.type "set") (rSetL X.prog X.w X.K) := by
  rintro pins s σ H xs us Q I r ⟨a, zs, rfl, hs, hb, q⟩
  rw [Vals.ref1 r]
  obtain ⟨its, rv, hl, hz⟩ := I.list hs
  refine call_set_x (I.ok.hd hc) hl.isList (show StrsAre its.toArray.toList zs from rv.strs) (by omega) fun s' k1 k2 k3 k4 sx => ?_
  obtain ⟨h', _, _, t', _⟩ := s'
  cases k2
  cases k3
  cases k4
  have len := pour_len (r := zs) (l := [])
  exact ⟨.ref s.heap.objs.size, _, I.laid (t' := t') k1 (Nat.le_refl _) (setX_new sx), rfl, q _ _ (by simpa using len) (fun k => by rw [pour_mem]; simp) (I.hok.fresh (Nat.le_refl _))⟩
end RM

set_option Elab.async false
set_option linter.all false
set_option maxRecDepth 100000
set_option maxHeartbeats 2000000
/-! own == of instances -/
namespace RM
open PySem PySem.Spec PyProof.Rows L2
section
variable (P : Program) (w : World) (K : PySem.W.Frag) (mg : Str → Option Value) (base : Heap)
/-- an own special method, met by an operator -/
def Own (k : Nat) (C : Addr) (m : Str) (sp : Sp) : Prop :=
  ∃ (f : Addr) (fd : FuncData) (ps : List Str), FnOk P w K mg base CX0 k f fd ps sp ∧ PySem.W.findIn K (.ref C) m = some (some (.ref f)) ∧ PySem.W.isFn K (.ref f) = true ∧ Binds K fd ps []
end
section
variable {P : Program} {w : World} {K : PySem.W.Frag} {mg : Str → Option Value} {base : Heap} {k : Nat} {m x : Str} {C : Addr} {sp : Sp}
theorem own_0 {qual : Str} {st : Stmt} {N ps : List Str} (F : ∃ fd, FunD K m qual (defArgs st) (defBody st) (defScope st) [] [] (He.ma K (He.ga K x) m) fd) (hs : spcB K x m = true) (S : FnScope N ps (defScope st))
    (hb : ∀ (kV doc pm : Value) (an : Option Addr) (cdv ct : Value) (us : List Value), us.length = ps.length → bindArgs (PySem.W.fnOf m qual (defArgs st) (defBody st) (defScope st) .none kV doc pm an cdv ct) ⟨us, []⟩ = pure (ps.zip us))
    (len : ∀ vs H Q E, sp vs H Q E → vs.length = ps.length) (h : Body0 P w K mg base N qual st (He.ma K (He.ga K x) m) k sp) : Own P w K mg base (k + 1) (He.ga K x) m sp :=
  let ⟨fd, F⟩ := F
  ⟨_, fd, ps, fn_0 F S len h, (spcB_ok hs).1, (spcB_ok hs).2, F.bindsN hb⟩
end
theorem room64 {k : Nat} {A : Around} (hr : Room k A) : A.units + 64 < cLine := by have := hr.un; omega
theorem not_ni {z : V} {u : Value} (r : RelV z u) : u ≠ .notImplemented := by
  intro e
  subst e
  cases z <;> simp [L2.RelV] at r
/-- x == y, the two of one own class -/
def rOwn (C : Addr) (sp : Sp) : R2 := fun x y H Q => ∃ a b dx dy fs gs, x = .ref a ∧ y = .ref b ∧ H a = some (.ins C dx fs) ∧ H b = some (.ins C dy gs) ∧ sp [x, y] H Q E0
section
variable {X : Cx} {k j : Nat} {C : Addr} {sp : Sp}
/-- a def called with what stands for vs -/
theorem ask_def {f : Addr} {fd : FuncData} {ps : List Str} {pins : List (Addr × Obj)} {σ : L2.St} {H : Hp} {s : Shared} {vs : List V} {us : List Value} {Q : VK} (F : FnOk X.prog X.w X.K X.mg X.base CX0 k f fd ps sp) (B : Binds X.K fd ps []) (hr : Room k X.A)
    (I : Inv X pins σ H s) (r : Vals vs us) (same : us.length = vs.length) (h : sp vs H Q E0) : wpAny (model X.prog X.w) X.A (call (.ref f) us) (EP X pins σ Q) X.xe s := by
  have given := B s us I.kIn
  rw [List.append_nil] at given
  refine wpAny_call (codeAny_mono (F.run X.A X.stack s H ⟨us, []⟩ us vs _ E0 hr I.env0 (given (same.trans (F.len _ _ _ _ h))) r h) fun out s1 z => ?_)
  match out, z with
  | .ok (.ret _), z => exact I.after z
  | .error _, z => exact pass0 pins σ H s _ s1 I z
  | .ok .next, z => exact z.elim
  | .ok .brk, z => exact z.elim
  | .ok .cont, z => exact z.elim
theorem op_ownEq (c : Own X.prog X.w X.K X.mg X.base k C "__eq__" sp) (hr : Room j X.A) (hk : k ≤ j := by omega) : OpR X (compareOp .Eq) (rOwn C sp) := by
  rintro pins s σ H _ _ v u Q I rx ry ⟨a, b, dx, dy, fs, gs, rfl, rfl, ha, hb, hsp⟩
  obtain ⟨f, fd, ps, F, hs, hf, B⟩ := c
  cases rx
  cases ry
  obtain ⟨_, ia, _⟩ := ins_get I.hok ha
  obtain ⟨_, ib, _⟩ := ins_get I.hok hb
  obtain ⟨_, la, _⟩ := ia.look
  obtain ⟨_, lb, _⟩ := ib.look
  have un := (hr.mono hk).un
  refine PySem.W.cmp_K (op := .Eq) (tb := .ref C) (by omega) I.fr.choose_spec I.ok.mod.kin la lb.type (by simp [PySem.W.notFirst]) hs hf (thn (ask_def (vs := [.ref a, .ref b]) F B (hr.mono hk) I (.cons rfl (.cons rfl .nil)) rfl hsp) fun r s1 z => ?_)
  obtain ⟨z, H1, I1, rz, q⟩ := z
  have some := not_ni rz
  cases r <;> first | exact absurd rfl some | exact ⟨z, H1, I1, rz, q⟩
end
/-- a sequence as it stands in a block -/
theorem pi_seqA' {X : Cx} {K : PySem.W.Frag} {tg l : Expr} {tl : TE} (hK : X.K = K) (hl : PE X l tl) : PI X tg l (iSeqA K tl) := by subst hK; exact pi_seqA hl
end RM

set_option Elab.async false
set_option linter.all false
set_option maxRecDepth 100000
set_option maxHeartbeats 2000000
/-! own + of two own classes -/
namespace RM
open PySem PySem.Spec PyProof.Rows L2
section
open PySem.W
variable {M : Model} {h : Heap} {K : Frag} {C f : Addr} {nm : String} {r : Option Value}
/-- the class's slot is a def -/
theorem slot_def (X : K.In h) (hs : findIn K (.ref C) (PySem.dunder nm) = some (some (.ref f))) (hr : findIn K (.ref C) (dunderR nm) = some r) (rr : r = none ∨ ∃ g, r = some (.ref g)) : Looks M h (numberSlotInPython (.ref C) nm) true := by
  intro A Q E s k q
  unfold numberSlotInPython
  refine wpAny_bind (looks_findIn X hs A _ E s k ?_)
  refine wpAny_bind (wpAny_pure ?_)
  refine wpAny_bind (looks_findIn X hr A _ E s k ?_)
  rcases rr with rfl | ⟨g, rfl⟩
  · exact wpAny_bind (wpAny_pure (by rw [if_pos (by rfl)]; exact wpAny_pure q))
  · exact wpAny_bind (wpAny_pure (by rw [if_pos (by rfl)]; exact wpAny_pure q))
theorem self_first (hc : selfFirst K C = true) : ∃ cd rest, clsIn K C = some cd ∧ cd.mro = .ref C :: rest := by
  unfold selfFirst at hc
  cases e : clsIn K C with
  | none => rw [e] at hc; cases hc
  | some cd =>
    rw [e] at hc
    cases q : cd.mro with
    | nil => simp [q] at hc
    | cons a r =>
      have : a = .ref C := by simpa [q] using hc
      exact ⟨cd, r, rfl, by rw [q, this]⟩
theorem binop_two {prog : Program} {w : World} {A : Around} {E : Value → Shared → Prop} {s : Shared} {x L D fD : Addr} {h₀ : Heap} {m : Str → Option Value} {ox : Obj} {od : Option Obj} {b : Value} {rC rD : Option Value} {Q : Value → Shared → Prop}
    (F : Fr h₀ L s.heap m) (X₀ : K.In h₀) (I : InstAt s.heap x ox C od) (hb : Looks (model prog w) s.heap (typeOf b) (.ref D)) (hne : D ≠ C) (hc : selfFirst K C = true) (hd : selfFirst K D = true) (hs : findIn K (.ref C) (PySem.dunder "add") = some (some (.ref f)))
    (hf : isFn K (.ref f) = true) (hsD : findIn K (.ref D) (PySem.dunder "add") = some (some (.ref fD))) (hrC : findIn K (.ref C) (dunderR "add") = some rC) (hrD : findIn K (.ref D) (dunderR "add") = some rD) (rC' : rC = none ∨ ∃ g, rC = some (.ref g)) (rD' : rD = none ∨ ∃ g, rD = some (.ref g))
    (sub : subIn K (.ref D) (.ref C) = some false) (h : wpAny (model prog w) A (call (.ref f) [.ref x, b]) (PySem.W.CmpBack Q) E s) : wpAny (model prog w) A (binaryOp .Add (.ref x) b) Q E s := by
  have X := X₀.keeps F.keep
  obtain ⟨cd, rest, hcd, hm⟩ := self_first hc
  obtain ⟨dd, rest2, hdd, hm2⟩ := self_first hd
  unfold binaryOp
  refine wpAny_holding (wpAny_bind ?_)
  unfold binaryOp1
  refine wpAny_bind (I.type.here (wpAny_bind (hb.here (wpAny_bind ((fills_K X hcd hm hs).here ?_)))))
  have nb : (Value.ref C == Value.ref D) = false := by simpa using fun e => hne e.symm
  simp only [nb, Bool.false_eq_true, if_false]
  refine wpAny_bind ((fills_K X hdd hm2 hsD).here ?_)
  simp only [Bool.and_self, if_true]
  refine wpAny_bind ((looks_subIn X sub).here ?_)
  simp only [Bool.false_eq_true, if_false, Bool.not_false, Bool.and_self, if_true]
  refine wpAny_bind ((slot_def X hs hrC rC').here ?_)
  simp only [if_true]
  refine wpAny_bind ((slot_def X hsD hrD rD').here ?_)
  simp only [Bool.not_true, Bool.false_eq_true, if_false]
  refine wpAny_bind (m := tryMethod (.ref x) _ b) ?_
  unfold tryMethod
  refine wpAny_bind (special_fn X I hs (beq_iff_eq.mp hf) (wpAny_mono h (fun v s' hv => ?_) fun _ _ e => e))
  cases v <;> first | exact hv.elim | exact wpAny_pure (wpAny_pure (wpAny_pure hv))
end
/-- what the head tells for x + y, x of the class at C, y of the one at D -/
def twoB (K : PySem.W.Frag) (x y : Str) : Bool :=
  let C := He.ga K x; let D := He.ga K y
  PySem.W.selfFirst K C && (PySem.W.selfFirst K D && (decide (D ≠ C) && (spcB K x "__add__" && (spcB K y "__add__" && (decide (PySem.W.subIn K (.ref D) (.ref C) = some false) &&
    ((He.eqO (PySem.W.findIn K (.ref C) "__radd__") (some none) || spcB K x "__radd__") && (He.eqO (PySem.W.findIn K (.ref D) "__radd__") (some none) || spcB K y "__radd__")))))))
/-- x + y, two own classes; E: what is wanted of an exception -/
def rAddX (C D : Addr) (sp : Sp) (E : XK) : R2 := fun x y H Q => ∃ a b dx dy fs gs, x = .ref a ∧ y = .ref b ∧ H a = some (.ins C dx fs) ∧ H b = some (.ins D dy gs) ∧ sp [x, y] H Q E
/-- an own special method that may raise -/
def OwnX (P : Program) (w : World) (K : PySem.W.Frag) (mg : Str → Option Value) (base : Heap) (k : Nat) (C : Addr) (m : Str) (sp : Sp) : Prop :=
  ∃ (f : Addr) (fd : FuncData) (ps : List Str), FnOk P w K mg base (L2.CX P w) k f fd ps sp ∧ PySem.W.findIn K (.ref C) m = some (some (.ref f)) ∧ PySem.W.isFn K (.ref f) = true ∧ Binds K fd ps []
theorem own_X {P : Program} {w : World} {K : PySem.W.Frag} {mg : Str → Option Value} {base : Heap} {k : Nat} {m x : Str} {sp : Sp} {qual : Str} {st : Stmt} {N ps : List Str} (F : ∃ fd, FunD K m qual (defArgs st) (defBody st) (defScope st) [] [] (He.ma K (He.ga K x) m) fd) (hs : spcB K x m = true) (S : FnScope N ps (defScope st))
    (hb : ∀ (kV doc pm : Value) (an : Option Addr) (cdv ct : Value) (us : List Value), us.length = ps.length → bindArgs (PySem.W.fnOf m qual (defArgs st) (defBody st) (defScope st) .none kV doc pm an cdv ct) ⟨us, []⟩ = pure (ps.zip us))
    (len : ∀ vs H Q E, sp vs H Q E → vs.length = ps.length) (h : BodyX P w K mg base N qual st (He.ma K (He.ga K x) m) k sp) : OwnX P w K mg base (k + 1) (He.ga K x) m sp :=
  let ⟨fd, F⟩ := F
  ⟨_, fd, ps, F.ok S len h, (spcB_ok hs).1, (spcB_ok hs).2, F.bindsN hb⟩
theorem radd_of {K : PySem.W.Frag} {x : Str} (h : (He.eqO (PySem.W.findIn K (.ref (He.ga K x)) "__radd__") (some none) || spcB K x "__radd__") = true) :
    ∃ r, PySem.W.findIn K (.ref (He.ga K x)) (dunderR "add") = some r ∧ (r = none ∨ ∃ g, r = some (.ref g)) := by
  rcases Bool.or_eq_true_iff.mp h with h | h
  · exact ⟨none, He.eqO_ok h, .inl rfl⟩
  · exact ⟨_, (spcB_ok h).1, .inr ⟨_, rfl⟩⟩
theorem op_addX {X : Cx} {k j : Nat} {x y : Str} {sp : Sp} {E : XK} (two : twoB X.K x y = true) (c : OwnX X.prog X.w X.K X.mg X.base k (He.ga X.K x) "__add__" sp) (hx : Passes (L2.CX X.prog X.w) X E) (hr : Room j X.A) (hk : k ≤ j := by omega) :
    OpR X (binaryOp .Add) (rAddX (He.ga X.K x) (He.ga X.K y) sp E) := by
  rintro pins s σ H _ _ v u Q I rx ry ⟨a, b, dx, dy, fs, gs, rfl, rfl, ha, hb, hsp⟩
  obtain ⟨f, fd, ps, F, hs, hf, B⟩ := c
  obtain ⟨t1, two⟩ := He.ba two
  obtain ⟨t2, two⟩ := He.ba two
  obtain ⟨t3, two⟩ := He.ba two
  obtain ⟨t4, two⟩ := He.ba two
  obtain ⟨t5, two⟩ := He.ba two
  obtain ⟨t6, two⟩ := He.ba two
  obtain ⟨t7, t8⟩ := He.ba two
  obtain ⟨rC, hrC, kC⟩ := radd_of t7
  obtain ⟨rD, hrD, kD⟩ := radd_of t8
  cases rx
  cases ry
  obtain ⟨_, ia, _⟩ := ins_get I.hok ha
  obtain ⟨_, ib, _⟩ := ins_get I.hok hb
  obtain ⟨_, la, _⟩ := ia.look
  obtain ⟨_, lb, _⟩ := ib.look
  refine binop_two I.fr.choose_spec I.ok.mod.kin la lb.type (of_decide_eq_true t3) t1 t2 hs hf (spcB_ok t5).1 hrC hrD kC kD (of_decide_eq_true t6) ?_
  refine thn (run_fn (vs := [.ref a, .ref b]) (dvs := []) (ds := []) F (hr.mono hk) B .nil hx I (.cons rfl (.cons rfl .nil)) hsp) fun r s1 z => ?_
  obtain ⟨z, H1, I1, rz, q⟩ := z
  have some := not_ni rz
  cases r <;> first | exact absurd rfl some | exact ⟨z, H1, I1, rz, q⟩
end RM

set_option Elab.async false
set_option linter.all false
set_option maxRecDepth 100000
set_option maxHeartbeats 2000000
/-! properties that give out a list anew; defaults that are empty tuples -/
namespace RM
open PySem PySem.Spec PyProof.Rows L2
def getSc : Scope := ⟨.function, [("self", .local), ("list", .globalImplicit)], false, false, []⟩
/-- def f(self): return list(self.u) -/
def lgB (K : PySem.W.Frag) (u : Str) : FuncData → Bool
  | ⟨_, q, ⟨[], [⟨s1, none, _⟩], none, [], [], none, []⟩, .stmts [.Return (some (.Call (.Name l _) [.Attribute (.Name s _) f _] [] _)) _], sc, gl, [], .none, _, _, _, _, cd, _, bl⟩ =>
    decide (s1 = "self") && (decide (l = "list") && (decide (s = "self") && (decide (f = u) && (decide (sc = getSc) && (decide (gl = mainGlobals) && (decide (bl = builtinsNs) && PySem.W.codeIn K cd q))))))
  | _ => false
/-- the getter of the property at p -/
def prpG (K : PySem.W.Frag) (p : Addr) : Addr := match PySem.W.recIn K p "property" with
  | some (.ref g :: _) => g
  | _ => 0
def prpB (K : PySem.W.Frag) (x f u : Str) : Bool :=
  let p := He.ma K (He.ga K x) f
  He.eqO (PySem.W.findIn K (.ref (He.ga K x)) f) (some (some (.ref p))) && (He.eqO (PySem.W.specialIn K (.ref p) "__get__") (some (some (.builtin "property.__get__"))) && (decide (PySem.W.takesIn K (.ref p) = some true) &&
    ((match PySem.W.recIn K p "property" with | some (.ref g :: _) => decide (g = prpG K p) | _ => false) && (match K.lookup (prpG K p) with | some ⟨_, _, .func fd, _⟩ => lgB K u fd | _ => false))))
/-- what the getter gives: a new list of what stands in the field -/
def spLget (K : PySem.W.Frag) (C : Addr) (u : Str) : Sp := fun vs H Q _ => match vs with
  | [x] => ∃ a dx fs l xs, x = .ref a ∧ H a = some (.ins C dx fs) ∧ fs.lookup u = some (.ref l) ∧ SqL K H l xs ∧ ∀ p, H p = none → Q (.ref p) (upd H p (.lst xs))
  | _ => False
theorem prpB_ok {P : Program} {w : World} {K : PySem.W.Frag} {mg : Str → Option Value} {base : Heap} {x f u : Str} (h : prpB K x f u = true) (c : Cls K (He.ga K x)) (n : NoAttr K (He.ga K x) u) (hl : mg "list" = none) :
    ∃ p g fd, PropOf K (He.ga K x) f p g ∧ FnOk P w K mg base CX0 1 g fd ["self"] (spLget K (He.ga K x) u) ∧ Binds K fd ["self"] [] := by
  obtain ⟨h1, h⟩ := He.ba h
  obtain ⟨h2, h⟩ := He.ba h
  obtain ⟨h3, h⟩ := He.ba h
  obtain ⟨h4, h5⟩ := He.ba h
  have P1 : PropOf K (He.ga K x) f (He.ma K (He.ga K x) f) (prpG K (He.ma K (He.ga K x) f)) := by
    refine ⟨He.eqO_ok h1, He.eqO_ok h2, of_decide_eq_true h3, ?_⟩
    split at h4
    · rename_i g rest e
      rw [← of_decide_eq_true h4]
      exact ⟨rest, e⟩
    · cases h4
  split at h5
  case h_2 => cases h5
  case h_1 oc od fd osl lk =>
    unfold lgB at h5
    split at h5
    case h_2 => cases h5
    case h_1 nm q s1 ap l p0 s p1 ff p2 p3 p4 sc gl kd dc pm an cd ct bl =>
      obtain ⟨e1, h6⟩ := He.ba h5
      obtain ⟨e2, h6⟩ := He.ba h6
      obtain ⟨e3, h6⟩ := He.ba h6
      obtain ⟨e4, h6⟩ := He.ba h6
      obtain ⟨e5, h6⟩ := He.ba h6
      obtain ⟨e6, h6⟩ := He.ba h6
      obtain ⟨e7, e8⟩ := He.ba h6
      replace e1 := of_decide_eq_true e1
      replace e2 := of_decide_eq_true e2
      replace e3 := of_decide_eq_true e3
      replace e4 := of_decide_eq_true e4
      replace e5 := of_decide_eq_true e5
      replace e6 := of_decide_eq_true e6
      replace e7 := of_decide_eq_true e7
      subst e1 e2 e3 e4 e5 e6 e7
      refine ⟨_, _, _, P1, fn_of (N := ["self"]) lk e8 ⟨rfl, rfl, rfl, by decide +kernel, rfl, by decide +kernel, by decide +kernel⟩ (fun vs H Q E h => match vs, h with | [_], _ => rfl) (fun A outer s H vs Q E hr h => ?_), ?_⟩
      · match vs, h with
        | [x], h =>
        obtain ⟨a, dx, fs, l, xs, rfl, ha, hf, hs, q⟩ := h
        refine ⟨_, (pss_one (ps_ret (pct hl call_list_of boot_list (pa_cons (pe_fld (pv 0) rfl) pa_nil)))), ?_⟩
        exact ⟨_, rfl, a, _, dx, _, _, rfl, ha, c, n, hf, l, xs, rfl, .inl hs, fun p hp => q p hp⟩
      · exact .all fun us hl => match us, hl with | [_], _ => rfl
/-- a default that is the empty tuple -/
def empB (K : PySem.W.Frag) (a : Addr) : Bool := match K.lookup a with
  | some ⟨.type c, _, .seq its _, _⟩ => decide (c = "tuple") && decide (its.size = 0)
  | _ => false
theorem empB_ok {K : PySem.W.Frag} {a : Addr} (h : empB K a = true) (H : Hp) : SqT K H a [] := by
  unfold empB at h
  split at h
  case h_2 => cases h
  case h_1 c dd its n sl lk =>
    obtain ⟨h1, h2⟩ := He.ba h
    have e := of_decide_eq_true h2
    have e2 : its = #[] := Array.eq_empty_of_size_eq_zero e
    exact .inr ⟨_, its, n, lk, congrArg Value.type (of_decide_eq_true h1), rfl, by rw [e]; exact Nat.zero_le _, by rw [e2]; exact Paired.nil⟩
theorem pe_prp {X : Cx} {K : PySem.W.Frag} {x f u : Str} {e : Expr} {pos : Pos} {ta : TE} {j : Nat} (hK : X.K = K) (h : prpB K x f u = true) (c : Cls K (He.ga K x)) (n : NoAttr K (He.ga K x) u) (hl : X.mg "list" = none) (hr : Room j X.A) (he : PE X e ta)
    (hab : attributeBase e f X.env (eval e X.env) = eval e X.env) (hk : 2 ≤ j := by omega) : PE X (.Attribute e f pos) (tProp (He.ga K x) (spLget K (He.ga K x) u) [] E0 ta) := by
  subst hK
  obtain ⟨p, g, fd, P1, F, B⟩ := prpB_ok (P := X.prog) (w := X.w) (base := X.base) h c n hl
  exact pe_prop he c P1 F (hr.mono hk) B .nil (fun _ _ _ _ _ _ _ h => h.elim) hab
end RM

set_option Elab.async false
set_option linter.all false
set_option maxRecDepth 100000
set_option maxHeartbeats 2000000
/-! own special methods: in, [], len, +=, [] =, + of one class -/
namespace RM
open PySem PySem.Spec PyProof.Rows L2
section
variable (P : Program) (w : World) (K : PySem.W.Frag) (mg : Str → Option Value) (base : Heap) (CX : CXT)
/-- an own special method, whatever it lets out -/
def OwnC (k : Nat) (C : Addr) (m : Str) (sp : Sp) : Prop :=
  ∃ (f : Addr) (fd : FuncData) (ps : List Str), FnOk P w K mg base CX k f fd ps sp ∧ PySem.W.findIn K (.ref C) m = some (some (.ref f)) ∧ PySem.W.isFn K (.ref f) = true ∧ Binds K fd ps [] ∧ PySem.W.fnIn K f = true
end
section
variable {P : Program} {w : World} {K : PySem.W.Frag} {mg : Str → Option Value} {base : Heap} {k : Nat} {m x : Str} {C : Addr} {sp : Sp} {CX : CXT}
theorem fn_in {q : Str} {ar : Arguments} {bd : List Stmt} {sc : Scope} {dv : List V} {kw : List (Str × V)} {f : Addr} {fd : FuncData} (F : FunD K m q ar bd sc dv kw f fd) : PySem.W.fnIn K f = true := by
  obtain ⟨_, _, _, _, _, _, _, _, _, _, _, lk, _⟩ := F.ex
  unfold PySem.W.fnIn
  rw [lk]
theorem own_C0 {qual : Str} {st : Stmt} {N ps : List Str} (F : ∃ fd, FunD K m qual (defArgs st) (defBody st) (defScope st) [] [] (He.ma K (He.ga K x) m) fd) (hs : spcB K x m = true) (S : FnScope N ps (defScope st))
    (hb : ∀ (kV doc pm : Value) (an : Option Addr) (cdv ct : Value) (us : List Value), us.length = ps.length → bindArgs (PySem.W.fnOf m qual (defArgs st) (defBody st) (defScope st) .none kV doc pm an cdv ct) ⟨us, []⟩ = pure (ps.zip us))
    (len : ∀ vs H Q E, sp vs H Q E → vs.length = ps.length) (h : Body0 P w K mg base N qual st (He.ma K (He.ga K x) m) k sp) : OwnC P w K mg base CX0 (k + 1) (He.ga K x) m sp :=
  let ⟨fd, F⟩ := F
  ⟨_, fd, ps, fn_0 F S len h, (spcB_ok hs).1, (spcB_ok hs).2, F.bindsN hb, fn_in F⟩
theorem own_CX {qual : Str} {st : Stmt} {N ps : List Str} (F : ∃ fd, FunD K m qual (defArgs st) (defBody st) (defScope st) [] [] (He.ma K (He.ga K x) m) fd) (hs : spcB K x m = true) (S : FnScope N ps (defScope st))
    (hb : ∀ (kV doc pm : Value) (an : Option Addr) (cdv ct : Value) (us : List Value), us.length = ps.length → bindArgs (PySem.W.fnOf m qual (defArgs st) (defBody st) (defScope st) .none kV doc pm an cdv ct) ⟨us, []⟩ = pure (ps.zip us))
    (len : ∀ vs H Q E, sp vs H Q E → vs.length = ps.length) (h : BodyX P w K mg base N qual st (He.ma K (He.ga K x) m) k sp) : OwnC P w K mg base (L2.CX P w) (k + 1) (He.ga K x) m sp :=
  let ⟨fd, F⟩ := F
  ⟨_, fd, ps, F.ok S len h, (spcB_ok hs).1, (spcB_ok hs).2, F.bindsN hb, fn_in F⟩
/-- nothing is let out where nothing is wished of it -/
theorem fn_calm {f : Addr} {fd : FuncData} {ps : List Str} (F : FnOk P w K mg base (L2.CX P w) k f fd ps sp) : FnOk P w K mg base CX0 k f fd ps (fun vs H Q _ => sp vs H Q E0) := by
  refine ⟨fun vs H Q E h => F.len vs H Q E0 h, fun A outer s H args us vs Q E hr e0 hb r h => ?_⟩
  refine codeAny_mono (F.run A outer s H args us vs Q E0 hr e0 hb r h) fun out s1 z => ?_
  match out, z with
  | .ok (.ret _), z => exact z
  | .ok .next, z => exact z
  | .ok .brk, z => exact z
  | .ok .cont, z => exact z
  | .error e, z =>
    obtain ⟨_, _, _, _, _, _, _, _, _, _, _, _, no⟩ := z
    exact no.elim
theorem Cal.calm {x : Str} (c : Cal P w K mg base (L2.CX P w) k x sp) : Cal P w K mg base CX0 k x (fun vs H Q _ => sp vs H Q E0) := let ⟨f, fd, ps, F, a, b, d⟩ := c; ⟨f, fd, ps, fn_calm F, a, b, d⟩
theorem Met.calm (c : Met P w K mg base (L2.CX P w) k C m sp) : Met P w K mg base CX0 k C m (fun vs H Q _ => sp vs H Q E0) := let ⟨f, fd, ps, a, b, F, d⟩ := c; ⟨f, fd, ps, a, b, fn_calm F, d⟩
theorem Mak.calm {x : Str} (c : Mak P w K mg base (L2.CX P w) k x C sp) : Mak P w K mg base CX0 k x C (fun vs H Q _ => sp vs H Q E0) := let ⟨f, fd, ps, a, F, b, d⟩ := c; ⟨f, fd, ps, a, fn_calm F, b, d⟩
theorem OwnC.calm (c : OwnC P w K mg base (L2.CX P w) k C m sp) : OwnC P w K mg base CX0 k C m (fun vs H Q _ => sp vs H Q E0) := let ⟨f, fd, ps, F, a⟩ := c; ⟨f, fd, ps, fn_calm F, a⟩
theorem OwnX.calm (c : OwnX P w K mg base k C m sp) : Own P w K mg base k C m (fun vs H Q _ => sp vs H Q E0) := let ⟨f, fd, ps, F, a⟩ := c; ⟨f, fd, ps, fn_calm F, a⟩
end
section
variable {X : Cx} {CX : CXT} {k j : Nat} {C : Addr} {sp : Sp} {E : XK}
/-- a def called one level in -/
theorem ask_in1 {f : Addr} {fd : FuncData} {ps : List Str} {pins : List (Addr × Obj)} {σ : L2.St} {H : Hp} {s : Shared} {vs : List V} {us : List Value} {Q : VK} (F : FnOk X.prog X.w X.K X.mg X.base CX k f fd ps sp) (B : Binds X.K fd ps []) (hr : Room (k + 1) X.A) (hx : Passes CX X E)
    (I : Inv X pins σ H s) (r : Vals vs us) (h : sp vs H Q E) : wpAny (model X.prog X.w) X.A.in1 (call (.ref f) us) (EP X pins σ Q) X.xe s := by
  have len : us.length = ps.length := by rw [← r.length]; exact F.len _ _ _ _ h
  have given := B s us I.kIn (by rw [List.append_nil]; exact len)
  rw [List.append_nil] at given
  refine wpAny_call (codeAny_mono (F.run X.A.in1 X.stack s H ⟨us, []⟩ us vs Q E hr.in1 I.env0.in1 given r h) fun out s1 z => ?_)
  match out, z with
  | .ok (.ret _), z => exact I.after z
  | .error e, z => exact hx pins σ H s e s1 I z
  | .ok .next, z => exact z.elim
  | .ok .brk, z => exact z.elim
  | .ok .cont, z => exact z.elim
/-- x in y, y of an own class -/
def rInO (C : Addr) (sp : Sp) (E : XK) (neg : Bool) : R2 := fun x y H Q => ∃ b dy gs, y = .ref b ∧ H b = some (.ins C dy gs) ∧ sp [y, x] H (fun v H' => ∃ c, v = .bl c ∧ Q (.bl (if neg then !c else c)) H') E
theorem op_inO (c : OwnC X.prog X.w X.K X.mg X.base CX k C "__contains__" sp) (hx : Passes CX X E) (hr : Room j X.A) (hk : k ≤ j := by omega) : OpR X (compareOp .In) (rInO C sp E false) := by
  rintro pins s σ H x _ v u Q I rx ry ⟨b, dy, gs, rfl, hb, h⟩
  obtain ⟨f, fd, ps, F, hs, hf, B, _⟩ := c
  cases ry
  obtain ⟨_, ib, _⟩ := ins_get I.hok hb
  obtain ⟨_, lb, _⟩ := ib.look
  refine PySem.W.in_K I.fr.choose_spec I.ok.mod.kin lb hs hf (thn (run_fn (vs := [.ref b, x]) (dvs := []) (ds := []) F (hr.mono hk) B .nil hx I (.cons rfl (.cons rx .nil)) h) fun r s1 z => ?_)
  obtain ⟨_, H1, I1, rz, c, rfl, q⟩ := z
  cases rz
  exact wpAny_truthy_bool ⟨.bl c, H1, I1, rfl, q⟩
theorem op_ninO (c : OwnC X.prog X.w X.K X.mg X.base CX k C "__contains__" sp) (hx : Passes CX X E) (hr : Room j X.A) (hk : k ≤ j := by omega) : OpR X (compareOp .NotIn) (rInO C sp E true) := by
  rintro pins s σ H x _ v u Q I rx ry ⟨b, dy, gs, rfl, hb, h⟩
  obtain ⟨f, fd, ps, F, hs, hf, B, _⟩ := c
  cases ry
  obtain ⟨_, ib, _⟩ := ins_get I.hok hb
  obtain ⟨_, lb, _⟩ := ib.look
  refine PySem.W.notIn_K I.fr.choose_spec I.ok.mod.kin lb hs hf (thn (run_fn (vs := [.ref b, x]) (dvs := []) (ds := []) F (hr.mono hk) B .nil hx I (.cons rfl (.cons rx .nil)) h) fun r s1 z => ?_)
  obtain ⟨_, H1, I1, rz, c, rfl, q⟩ := z
  cases rz
  exact wpAny_truthy_bool ⟨.bl (!c), H1, I1, rfl, q⟩
/-- a[b], a of an own class -/
def tGetO (C : Addr) (sp : Sp) (E : XK) (ta tb : TE) : TE := fun σ H Q => ta σ H fun x H1 => tb σ H1 fun y H2 => ∃ a dx fs, x = .ref a ∧ H2 a = some (.ins C dx fs) ∧ sp [x, y] H2 Q E
theorem pe_getO {a b : Expr} {ta tb : TE} {pos : Pos} (c : OwnC X.prog X.w X.K X.mg X.base CX k C "__getitem__" sp) (hx : Passes CX X E) (hr : Room j X.A) (ha : PE X a ta) (hb : PE X b tb) (hk : k + 1 ≤ j := by omega)
    (hsl : ∀ v u, subscripted b true v u = runValue (.builtin "lifetime.subscript" ⟨[v, u], []⟩) := by intro _ _; rfl) : PE X (.Subscript a b pos) (tGetO C sp E ta tb) := by
  obtain ⟨f, fd, ps, F, hs, hf, B, hn⟩ := c
  refine ⟨fun pins s σ H Q I h => ?_⟩
  refine Subscript_ (thn (ha.run pins s σ H _ I h) fun v s1 ⟨x, H1, I1, rx, h1⟩ => thn (hb.run pins s1 σ H1 _ I1 h1) fun u s2 ⟨y, H2, I2, ry, h2⟩ => ?_)
  obtain ⟨p, dx, fs, rfl, hp, h3⟩ := h2
  cases rx
  obtain ⟨_, ip, _⟩ := ins_get I2.hok hp
  obtain ⟨_, lp, _⟩ := ip.look
  exact PySem.W.sub_K I2.fr.choose_spec I2.ok.mod.kin lp hs hn hf (ask_in1 (vs := [.ref p, y]) F B (hr.mono hk) hx I2 (.cons rfl (.cons ry .nil)) h3) (hsl _ _)
/-- len(x), x of an own class -/
theorem call_lenO (c : OwnC X.prog X.w X.K X.mg X.base CX k C "__len__" sp) (hx : Passes CX X E) (hr : Room j X.A) (hk : k + 1 ≤ j := by omega) :
    CallR X (.builtin "len") (fun xs H Q => ∃ a dx fs, xs = [.ref a] ∧ H a = some (.ins C dx fs) ∧ sp [.ref a] H (fun v H' => ∃ n : Int, v = .int n ∧ 0 ≤ n ∧ n < 2 ^ 63 ∧ Q (.int n) H') E) := by
  rintro pins s σ H xs us Q I r ⟨a, dx, fs, rfl, ha, h⟩
  obtain ⟨f, fd, ps, F, hs, hf, B, _⟩ := c
  obtain rfl := Vals.ref1 r
  obtain ⟨_, ia, _⟩ := ins_get I.hok ha
  obtain ⟨_, la, _⟩ := ia.look
  refine PySem.W.len_K I.fr.choose_spec I.ok.mod.kin la hs hf (thn (ask_in1 (vs := [.ref a]) F B (hr.mono hk) hx I (.cons rfl .nil) h) fun r s1 z => ?_)
  obtain ⟨_, H1, I1, rz, n, rfl, n0, n1, q⟩ := z
  obtain ⟨t, rfl⟩ := rz
  exact ⟨⟨n0, n1⟩, .int n, H1, I1.tok _, ⟨_, rfl⟩, q⟩
/-- x += y, x of an own class -/
def rIadO (C : Addr) (sp : Sp) (E : XK) : R2 := fun x y H Q => ∃ a dx fs, x = .ref a ∧ H a = some (.ins C dx fs) ∧ sp [x, y] H Q E
theorem in_addO (c : OwnC X.prog X.w X.K X.mg X.base CX k C "__iadd__" sp) (sf : PySem.W.selfFirst X.K C = true) (hx : Passes CX X E) (hr : Room j X.A) (hk : k ≤ j := by omega) : InOp X .Add (rIadO C sp E) := by
  rintro pins s σ H _ y u v Q I rx ry ⟨a, dx, fs, rfl, ha, h⟩
  obtain ⟨f, fd, ps, F, hs, hf, B, _⟩ := c
  cases rx
  obtain ⟨_, ia, _⟩ := ins_get I.hok ha
  obtain ⟨_, la, _⟩ := ia.look
  refine PySem.W.ksp_inplace I.fr.choose_spec I.ok.mod.kin la sf hs hf (thn (run_fn (vs := [.ref a, y]) (dvs := []) (ds := []) F (hr.mono hk) B .nil hx I (.cons rfl (.cons ry .nil)) h) fun r s1 z => ?_)
  obtain ⟨z, H1, I1, rz, q⟩ := z
  have some := not_ni rz
  cases r <;> first | exact absurd rfl some | exact ⟨z, H1, I1, rz, q⟩
/-- x + y, both of one own class -/
def rAddS (C : Addr) (sp : Sp) (E : XK) : R2 := fun x y H Q => ∃ a b dx dy fs gs, x = .ref a ∧ y = .ref b ∧ H a = some (.ins C dx fs) ∧ H b = some (.ins C dy gs) ∧ sp [x, y] H Q E
theorem op_addS (c : OwnC X.prog X.w X.K X.mg X.base CX k C "__add__" sp) (sf : PySem.W.selfFirst X.K C = true) (hx : Passes CX X E) (hr : Room j X.A) (hk : k ≤ j := by omega) : OpR X (binaryOp .Add) (rAddS C sp E) := by
  rintro pins s σ H _ _ v u Q I rx ry ⟨a, b, dx, dy, fs, gs, rfl, rfl, ha, hb, h⟩
  obtain ⟨f, fd, ps, F, hs, hf, B, _⟩ := c
  cases rx
  cases ry
  obtain ⟨_, ia, _⟩ := ins_get I.hok ha
  obtain ⟨_, ib, _⟩ := ins_get I.hok hb
  obtain ⟨_, la, _⟩ := ia.look
  obtain ⟨_, lb, _⟩ := ib.look
  refine PySem.W.binop_K I.fr.choose_spec I.ok.mod.kin la lb.type sf hs hf (thn (run_fn (vs := [.ref a, .ref b]) (dvs := []) (ds := []) F (hr.mono hk) B .nil hx I (.cons rfl (.cons rfl .nil)) h) fun r s1 z => ?_)
  obtain ⟨z, H1, I1, rz, q⟩ := z
  have some := not_ni rz
  cases r <;> first | exact absurd rfl some | exact ⟨z, H1, I1, rz, q⟩
end
theorem two_first {K : PySem.W.Frag} {x y : Str} (h : twoB K x y = true) : PySem.W.selfFirst K (He.ga K x) = true ∧ PySem.W.selfFirst K (He.ga K y) = true := let ⟨a, b⟩ := He.ba h; ⟨a, (He.ba b).1⟩
theorem op_addG {X : Cx} {CX : CXT} {k j : Nat} {x y : Str} {sp : Sp} {E : XK} (two : twoB X.K x y = true) (c : ∃ (f : Addr) (fd : FuncData) (ps : List Str), FnOk X.prog X.w X.K X.mg X.base CX k f fd ps sp ∧ PySem.W.findIn X.K (.ref (He.ga X.K x)) "__add__" = some (some (.ref f)) ∧ PySem.W.isFn X.K (.ref f) = true ∧ Binds X.K fd ps []) (hx : Passes CX X E) (hr : Room j X.A) (hk : k ≤ j := by omega) :
    OpR X (binaryOp .Add) (rAddX (He.ga X.K x) (He.ga X.K y) sp E) := by
  rintro pins s σ H _ _ v u Q I rx ry ⟨a, b, dx, dy, fs, gs, rfl, rfl, ha, hb, hsp⟩
  obtain ⟨f, fd, ps, F, hs, hf, B⟩ := c
  obtain ⟨t1, two⟩ := He.ba two
  obtain ⟨t2, two⟩ := He.ba two
  obtain ⟨t3, two⟩ := He.ba two
  obtain ⟨t4, two⟩ := He.ba two
  obtain ⟨t5, two⟩ := He.ba two
  obtain ⟨t6, two⟩ := He.ba two
  obtain ⟨t7, t8⟩ := He.ba two
  obtain ⟨rC, hrC, kC⟩ := radd_of t7
  obtain ⟨rD, hrD, kD⟩ := radd_of t8
  cases rx
  cases ry
  obtain ⟨_, ia, _⟩ := ins_get I.hok ha
  obtain ⟨_, ib, _⟩ := ins_get I.hok hb
  obtain ⟨_, la, _⟩ := ia.look
  obtain ⟨_, lb, _⟩ := ib.look
  refine binop_two I.fr.choose_spec I.ok.mod.kin la lb.type (of_decide_eq_true t3) t1 t2 hs hf (spcB_ok t5).1 hrC hrD kC kD (of_decide_eq_true t6) ?_
  refine thn (run_fn (vs := [.ref a, .ref b]) (dvs := []) (ds := []) F (hr.mono hk) B .nil hx I (.cons rfl (.cons rfl .nil)) hsp) fun r s1 z => ?_
  obtain ⟨z, H1, I1, rz, q⟩ := z
  have some := not_ni rz
  cases r <;> first | exact absurd rfl some | exact ⟨z, H1, I1, rz, q⟩
end RM

set_option Elab.async false
set_option linter.all false
set_option maxRecDepth 100000
set_option maxHeartbeats 2000000
/-! x != y of an own class with == alone -/
namespace RM
open PySem PySem.Spec PyProof.Rows L2
section
open PySem.W
variable {prog : Program} {w : World} {A : Around} {E : Value → Shared → Prop} {s : Shared} {K : Frag} {x y C L f : Addr} {h₀ : Heap} {m : Str → Option Value} {ox : Obj} {od : Option Obj}
theorem check_ne {M : Model} {Q : Unit → Shared → Prop} (X : K.In s.heap) (I : InstAt s.heap x ox C od) (hsub : subIn K (.ref C) (.type "object") = some true) {b : Value} (hq : Q () s) :
    wpAny M A (checkBuiltinCall "object.__ne__" ⟨[.ref x, b], []⟩) Q E s := by
  have ha := F.cmpArgs_ne (.ref x) b
  simp only [checkBuiltinCall, F.cmpKind_ne, F.cmpSplit_ne]
  refine wpAny_bind ?_
  simp only [isInstance]
  refine wpAny_bind (I.type.here ((looks_subIn X hsub).here ?_))
  simp only [Bool.not_true, Bool.false_eq_true, if_false]
  cases hsig : Manifest.signature? "object.__ne__" with
  | none => exact wpAny_pure hq
  | some sig =>
    simp only [argsOk, hsig] at ha
    have h2 : Bind.checkArgs "object.__ne__" sig ⟨[.ref x, b], []⟩ = pure () := ha
    show wpAny M A (Bind.checkArgs "object.__ne__" sig ⟨[.ref x, b], []⟩) Q E _
    rw [h2]
    exact wpAny_pure hq
theorem objNe_own {Q : Fin → Shared → Prop} (X : K.In s.heap) (I : InstAt s.heap x ox C od) (he : findIn K (.ref C) "__eq__" = some (some (.ref f))) (hf : isFn K (.ref f) = true) (hu : A.units < cLine)
    (h : wpAny (model prog w) A (call (.ref f) [.ref x, .ref y]) (fun v s' => ∃ b, v = .bool b ∧ Q (.done (.ret (.bool (!b)))) s') E s) : wpAny (model prog w) A (Builtin.«object.__ne__» ⟨[.ref x, .ref y], []⟩) Q E s := by
  unfold Builtin.«object.__ne__»
  repeat (first
    | with_reducible refine wpAny_cRoomFor hu ?_
    | (refine wpAny_bind (m := callSpecialIfBound? (.ref x) (Str.ofString "__eq__") [.ref y]) (ifBound_K X I he hf (wpAny_mono h (fun r s' hr => by
          obtain ⟨b, rfl, hq⟩ := hr
          repeat (first | exact hq | exact wpAny_pure hq | exact wpAny_truthy_bool hq | (refine wpAny_bind (m := truthy (.bool _)) (wpAny_truthy_bool ?_)) | wp_step)) fun _ _ e => e)))
    | wp_step)
theorem ifBound_ne {Q : Option Value → Shared → Prop} (X : K.In s.heap) (I : InstAt s.heap x ox C od) (hs : findIn K (.ref C) "__ne__" = some (some (.builtin "object.__ne__")))
    (h : wpAny (model prog w) A (call (.builtin "object.__ne__") [.ref x, .ref y]) (fun v => Q (some v)) E s) : wpAny (model prog w) A (callSpecialIfBound? (.ref x) "__ne__" [.ref y]) Q E s := by
  simp only [callSpecialIfBound?, bindSpecialIfBound?]
  refine wpAny_holding (wpAny_bind (wpAny_bind (wpAny_bind (I.type.here ((looks_findIn X hs).here ?_)))))
  simp only [F.cmp_object.ne.bind]
  refine wpAny_bind (wpAny_askSetting (wpAny_ite ?_))
  have fin : wpAny (model prog w) A (call (.builtin "object.__ne__") ([.ref x] ++ [.ref y]) >>= fun v => pure (some v)) Q E s := wpAny_bind (wpAny_mono h (fun v s' h' => wpAny_pure h') fun _ _ h' => h')
  split
  · exact wpAny_bind (wpAny_pure (wpAny_pure (by exact fin)))
  · exact wpAny_tryCatch (wpAny_bind (wpAny_pure (wpAny_pure (by exact fin))))
theorem cmp_ne {Q : Value → Shared → Prop} (hu : A.units + 1 < cLine) (F : Fr h₀ L s.heap m) (X₀ : K.In h₀) (I : InstAt s.heap x ox C od) (hb : Looks (model prog w) s.heap (typeOf (.ref y)) (.ref C))
    (hs : findIn K (.ref C) "__ne__" = some (some (.builtin "object.__ne__"))) (he : findIn K (.ref C) "__eq__" = some (some (.ref f))) (hf : isFn K (.ref f) = true) (hsub : subIn K (.ref C) (.type "object") = some true)
    (h : wpAny (model prog w) A.in1 (call (.ref f) [.ref x, .ref y]) (fun v s' => ∃ b, v = .bool b ∧ Q (.bool (!b)) s') E s) : wpAny (model prog w) A (compareOp .NotEq (.ref x) (.ref y)) Q E s := by
  have X := X₀.keeps F.keep
  have one : wpAny (model prog w) A (tryCompare (.ref x) "__ne__" (.ref y)) (fun r s' => ∃ v, r = some v ∧ Q v s') E s := by
    unfold tryCompare
    refine wpAny_bind (ifBound_ne X I hs (wpAny_call (codeAny_call_builtin PySem.F.cmp_object.ne.plain PySem.F.cmpEntry_ne (check_ne X I hsub (objNe_own (A := A.in1) X I he hf hu (wpAny_mono h (fun v s' hv => ?_) fun _ _ e => e))))))
    obtain ⟨b, rfl, hq⟩ := hv
    first | exact ⟨b, rfl, wpAny_pure ⟨_, rfl, hq⟩⟩ | exact wpAny_pure ⟨_, rfl, hq⟩ | exact ⟨_, rfl, hq⟩
  unfold compareOp
  unfold richCompare
  simp only [oneThing_ref]
  refine wpAny_holding (wpAny_bind (wpAny_cRoomFor (Nat.lt_of_succ_lt hu) ?_))
  rw [cmpInfo_NotEq]
  dsimp only
  refine wpAny_bind (I.type.here (wpAny_bind (hb.here ?_)))
  rw [show (Value.ref C != Value.ref C) = false from by simp]
  simp only [Bool.false_eq_true, if_false]
  refine wpAny_bind (wpAny_pure ?_)
  simp only [Bool.false_eq_true, if_false]
  refine wpAny_bind (wpAny_mono one (fun r s' z => ?_) fun _ _ e => e)
  obtain ⟨v, rfl, hq⟩ := z
  exact wpAny_pure hq
end
def neB (K : PySem.W.Frag) (x : Str) : Bool := He.eqO (PySem.W.findIn K (.ref (He.ga K x)) "__ne__") (some (some (.builtin "object.__ne__"))) && decide (PySem.W.subIn K (.ref (He.ga K x)) (.type "object") = some true)
theorem neB_ok {K : PySem.W.Frag} {x : Str} (h : neB K x = true) : PySem.W.findIn K (.ref (He.ga K x)) "__ne__" = some (some (.builtin "object.__ne__")) ∧ PySem.W.subIn K (.ref (He.ga K x)) (.type "object") = some true :=
  let ⟨a, b⟩ := He.ba h
  ⟨He.eqO_ok a, of_decide_eq_true b⟩
/-- x != y, the two of one own class with == -/
def rOwnNe (C : Addr) (sp : Sp) : R2 := fun x y H Q => ∃ a b dx dy fs gs, x = .ref a ∧ y = .ref b ∧ H a = some (.ins C dx fs) ∧ H b = some (.ins C dy gs) ∧ sp [x, y] H (fun v H' => ∃ c, v = .bl c ∧ Q (.bl (!c)) H') E0
theorem op_ownNe {X : Cx} {k j : Nat} {x : Str} {sp : Sp} (n : neB X.K x = true) (c : Own X.prog X.w X.K X.mg X.base k (He.ga X.K x) "__eq__" sp) (hr : Room j X.A) (hk : k + 1 ≤ j := by omega) : OpR X (compareOp .NotEq) (rOwnNe (He.ga X.K x) sp) := by
  rintro pins s σ H _ _ v u Q I rx ry ⟨a, b, dx, dy, fs, gs, rfl, rfl, ha, hb, hsp⟩
  obtain ⟨f, fd, ps, F, hs, hf, B⟩ := c
  cases rx
  cases ry
  obtain ⟨_, ia, _⟩ := ins_get I.hok ha
  obtain ⟨_, ib, _⟩ := ins_get I.hok hb
  obtain ⟨_, la, _⟩ := ia.look
  obtain ⟨_, lb, _⟩ := ib.look
  have un := (hr.mono hk).un
  obtain ⟨n1, n2⟩ := neB_ok n
  refine cmp_ne (by omega) I.fr.choose_spec I.ok.mod.kin la lb.type n1 hs hf n2 (thn (ask_in1 (vs := [.ref a, .ref b]) F B (hr.mono hk) pass0 I (.cons rfl (.cons rfl .nil)) hsp) fun r s1 z => ?_)
  obtain ⟨z, H1, I1, rz, c, rfl, q⟩ := z
  cases rz
  exact ⟨c, rfl, .bl (!c), H1, I1, rfl, q⟩
end RM

set_option Elab.async false
set_option linter.all false
set_option maxRecDepth 100000
set_option maxHeartbeats 0
namespace RM
open PySem PySem.Spec PyProof.Rows L2
def top (i : Nat) : Stmt := PySem.Challenge.pw_readmoments_k23_errors_are_apart.main.body.getD i (.Pass ⟨0, 0, 0, 0⟩)
abbrev s_BadValue_init : Stmt := inClass (top 9) 0
abbrev s_NoKey_init : Stmt := inClass (top 10) 0
abbrev s_BadStatement_init : Stmt := inClass (top 11) 0
abbrev s_BadSchedule_init : Stmt := inClass (top 12) 0
abbrev s_BadText_init : Stmt := inClass (top 13) 0
abbrev s_NoChange_init : Stmt := inClass (top 14) 0
abbrev s_is_word : Stmt := top 20
abbrev s_is_value : Stmt := top 21
abbrev s_checked : Stmt := top 22
abbrev s_Change_init : Stmt := inClass (top 23) 0
abbrev s_Change_settings : Stmt := inClass (top 23) 1
abbrev s_Change_eq : Stmt := inClass (top 23) 2
abbrev s_Change_add : Stmt := inClass (top 23) 3
abbrev s_Change_contains : Stmt := inClass (top 23) 4
abbrev s_Change_len : Stmt := inClass (top 23) 5
abbrev s_Change_bool : Stmt := inClass (top 23) 6
abbrev s_Surroundings_init : Stmt := inClass (top 24) 0
abbrev s_Surroundings_keys_of : Stmt := inClass (top 24) 1
abbrev s_Surroundings_state : Stmt := inClass (top 24) 2
abbrev s_Surroundings_getitem : Stmt := inClass (top 24) 3
abbrev s_Surroundings_setitem : Stmt := inClass (top 24) 4
abbrev s_Surroundings_iter : Stmt := inClass (top 24) 5
abbrev s_Surroundings_add : Stmt := inClass (top 24) 6
abbrev s_Surroundings_radd : Stmt := inClass (top 24) 7
abbrev s_Surroundings_iadd : Stmt := inClass (top 24) 8
abbrev s_Surroundings_eq : Stmt := inClass (top 24) 9
abbrev s_Surroundings_contains : Stmt := inClass (top 24) 10
abbrev s_Surroundings_len : Stmt := inClass (top 24) 11
abbrev s_changed : Stmt := top 25
abbrev s_is_item : Stmt := top 30
abbrev s_is_statement : Stmt := top 31
abbrev s_bodies_of : Stmt := top 32
abbrev s_check_body : Stmt := top 33
abbrev s_as_tuples : Stmt := top 34
abbrev s_all_statements : Stmt := top 35
abbrev s_depth_of : Stmt := top 36
abbrev s_check_size : Stmt := top 37
abbrev s_names_in : Stmt := top 38
abbrev s_Program_init : Stmt := inClass (top 39) 0
abbrev s_Program_eq : Stmt := inClass (top 39) 1
abbrev s_Program_reads : Stmt := inClass (top 39) 2
abbrev s_Program_keys_of : Stmt := inClass (top 39) 3
abbrev s_Program_variables : Stmt := inClass (top 39) 4
abbrev s_Outcome_init : Stmt := inClass (top 41) 0
abbrev s_check_keys : Stmt := top 42
abbrev s_check_schedule : Stmt := top 43
abbrev s_Runner_init : Stmt := inClass (top 44) 0
abbrev s_Runner_wait : Stmt := inClass (top 44) 1
abbrev s_Runner_value_of : Stmt := inClass (top 44) 2
abbrev s_Runner_branch : Stmt := inClass (top 44) 3
abbrev s_Runner_statement : Stmt := inClass (top 44) 4
abbrev s_Runner_execute : Stmt := inClass (top 44) 5
abbrev s_run : Stmt := top 45
abbrev s_with_state : Stmt := top 46
abbrev s_states_from : Stmt := top 49
abbrev s_Ground_init : Stmt := inClass (top 50) 0
abbrev s_Ground_padded : Stmt := inClass (top 50) 2
abbrev s_steps_of : Stmt := top 51
abbrev s_Spot_init : Stmt := inClass (top 52) 0
abbrev s_Spot_mark : Stmt := inClass (top 52) 1
abbrev s_value_in : Stmt := top 53
abbrev s_with_value : Stmt := top 54
abbrev s_moved : Stmt := top 55
abbrev s_is_over : Stmt := top 56
abbrev s_at_wait : Stmt := top 57
abbrev s_reachable : Stmt := top 59
abbrev s_Desk_init : Stmt := inClass (top 61) 0
abbrev s_Desk_go_to : Stmt := inClass (top 61) 5
abbrev s_Desk_after : Stmt := inClass (top 61) 6
abbrev s_Desk_allow : Stmt := inClass (top 61) 8
abbrev s_Desk_forbid : Stmt := inClass (top 61) 9
abbrev s_Desk_getitem : Stmt := inClass (top 61) 10
abbrev s_Desk_setitem : Stmt := inClass (top 61) 11
abbrev s_Desk_iter : Stmt := inClass (top 61) 12
abbrev s_Desk_undo : Stmt := inClass (top 61) 13
abbrev s_Watch_init : Stmt := inClass (top 63) 0
abbrev s_Watch_mark : Stmt := inClass (top 63) 1
abbrev s_seen_value : Stmt := top 64
abbrev s_begin_watch : Stmt := top 65
abbrev s_torn_here : Stmt := top 66
abbrev s_with_state_met : Stmt := top 67
abbrev s_followers : Stmt := top 68
abbrev s_is_new : Stmt := top 69
abbrev s_torn_schedules : Stmt := top 70
abbrev s_torn_by : Stmt := top 71
abbrev s_number_of : Stmt := top 74
abbrev s_item_of : Stmt := top 75
abbrev s_plain_statement : Stmt := top 76
abbrev s_body_of : Stmt := top 77
abbrev s_read : Stmt := top 78
abbrev s_law_begin : Stmt := top 80
abbrev s_law_draw : Stmt := top 81
abbrev s_law_first : Stmt := top 82
abbrev s_law_second : Stmt := top 83
abbrev s_law_kinds : Stmt := top 84
abbrev s_law : Stmt := top 85
def d_BadValue_init : He.DefD := ⟨("BadValue", some "__init__"), "__init__", "BadValue.__init__", defArgs s_BadValue_init, defBody s_BadValue_init, defScope s_BadValue_init, [], []⟩
def d_NoKey_init : He.DefD := ⟨("NoKey", some "__init__"), "__init__", "NoKey.__init__", defArgs s_NoKey_init, defBody s_NoKey_init, defScope s_NoKey_init, [], []⟩
def d_BadStatement_init : He.DefD := ⟨("BadStatement", some "__init__"), "__init__", "BadStatement.__init__", defArgs s_BadStatement_init, defBody s_BadStatement_init, defScope s_BadStatement_init, [], []⟩
def d_BadSchedule_init : He.DefD := ⟨("BadSchedule", some "__init__"), "__init__", "BadSchedule.__init__", defArgs s_BadSchedule_init, defBody s_BadSchedule_init, defScope s_BadSchedule_init, [], []⟩
def d_BadText_init : He.DefD := ⟨("BadText", some "__init__"), "__init__", "BadText.__init__", defArgs s_BadText_init, defBody s_BadText_init, defScope s_BadText_init, [], []⟩
def d_NoChange_init : He.DefD := ⟨("NoChange", some "__init__"), "__init__", "NoChange.__init__", defArgs s_NoChange_init, defBody s_NoChange_init, defScope s_NoChange_init, [], []⟩
def d_is_word : He.DefD := ⟨("is_word", none), "is_word", "is_word", defArgs s_is_word, defBody s_is_word, defScope s_is_word, [], []⟩
def d_is_value : He.DefD := ⟨("is_value", none), "is_value", "is_value", defArgs s_is_value, defBody s_is_value, defScope s_is_value, [], []⟩
def d_checked : He.DefD := ⟨("checked", none), "checked", "checked", defArgs s_checked, defBody s_checked, defScope s_checked, [], []⟩
def d_Change_init : He.DefD := ⟨("Change", some "__init__"), "__init__", "Change.__init__", defArgs s_Change_init, defBody s_Change_init, defScope s_Change_init, [], []⟩
def d_Change_settings : He.DefD := ⟨("Change", some "settings"), "settings", "Change.settings", defArgs s_Change_settings, defBody s_Change_settings, defScope s_Change_settings, [], []⟩
def d_Change_eq : He.DefD := ⟨("Change", some "__eq__"), "__eq__", "Change.__eq__", defArgs s_Change_eq, defBody s_Change_eq, defScope s_Change_eq, [], []⟩
def d_Change_add : He.DefD := ⟨("Change", some "__add__"), "__add__", "Change.__add__", defArgs s_Change_add, defBody s_Change_add, defScope s_Change_add, [], []⟩
def d_Change_contains : He.DefD := ⟨("Change", some "__contains__"), "__contains__", "Change.__contains__", defArgs s_Change_contains, defBody s_Change_contains, defScope s_Change_contains, [], []⟩
def d_Change_len : He.DefD := ⟨("Change", some "__len__"), "__len__", "Change.__len__", defArgs s_Change_len, defBody s_Change_len, defScope s_Change_len, [], []⟩
def d_Change_bool : He.DefD := ⟨("Change", some "__bool__"), "__bool__", "Change.__bool__", defArgs s_Change_bool, defBody s_Change_bool, defScope s_Change_bool, [], []⟩
def d_Surroundings_init : He.DefD := ⟨("Surroundings", some "__init__"), "__init__", "Surroundings.__init__", defArgs s_Surroundings_init, defBody s_Surroundings_init, defScope s_Surroundings_init, [], []⟩
def d_Surroundings_keys_of : He.DefD := ⟨("Surroundings", some "keys_of"), "keys_of", "Surroundings.keys_of", defArgs s_Surroundings_keys_of, defBody s_Surroundings_keys_of, defScope s_Surroundings_keys_of, [], []⟩
def d_Surroundings_state : He.DefD := ⟨("Surroundings", some "state"), "state", "Surroundings.state", defArgs s_Surroundings_state, defBody s_Surroundings_state, defScope s_Surroundings_state, [], []⟩
def d_Surroundings_getitem : He.DefD := ⟨("Surroundings", some "__getitem__"), "__getitem__", "Surroundings.__getitem__", defArgs s_Surroundings_getitem, defBody s_Surroundings_getitem, defScope s_Surroundings_getitem, [], []⟩
def d_Surroundings_setitem : He.DefD := ⟨("Surroundings", some "__setitem__"), "__setitem__", "Surroundings.__setitem__", defArgs s_Surroundings_setitem, defBody s_Surroundings_setitem, defScope s_Surroundings_setitem, [], []⟩
def d_Surroundings_iter : He.DefD := ⟨("Surroundings", some "__iter__"), "__iter__", "Surroundings.__iter__", defArgs s_Surroundings_iter, defBody s_Surroundings_iter, defScope s_Surroundings_iter, [], []⟩
def d_Surroundings_add : He.DefD := ⟨("Surroundings", some "__add__"), "__add__", "Surroundings.__add__", defArgs s_Surroundings_add, defBody s_Surroundings_add, defScope s_Surroundings_add, [], []⟩
def d_Surroundings_radd : He.DefD := ⟨("Surroundings", some "__radd__"), "__radd__", "Surroundings.__radd__", defArgs s_Surroundings_radd, defBody s_Surroundings_radd, defScope s_Surroundings_radd, [], []⟩
def d_Surroundings_iadd : He.DefD := ⟨("Surroundings", some "__iadd__"), "__iadd__", "Surroundings.__iadd__", defArgs s_Surroundings_iadd, defBody s_Surroundings_iadd, defScope s_Surroundings_iadd, [], []⟩
def d_Surroundings_eq : He.DefD := ⟨("Surroundings", some "__eq__"), "__eq__", "Surroundings.__eq__", defArgs s_Surroundings_eq, defBody s_Surroundings_eq, defScope s_Surroundings_eq, [], []⟩
def d_Surroundings_contains : He.DefD := ⟨("Surroundings", some "__contains__"), "__contains__", "Surroundings.__contains__", defArgs s_Surroundings_contains, defBody s_Surroundings_contains, defScope s_Surroundings_contains, [], []⟩
def d_Surroundings_len : He.DefD := ⟨("Surroundings", some "__len__"), "__len__", "Surroundings.__len__", defArgs s_Surroundings_len, defBody s_Surroundings_len, defScope s_Surroundings_len, [], []⟩
def d_changed : He.DefD := ⟨("changed", none), "changed", "changed", defArgs s_changed, defBody s_changed, defScope s_changed, [], []⟩
def d_is_item : He.DefD := ⟨("is_item", none), "is_item", "is_item", defArgs s_is_item, defBody s_is_item, defScope s_is_item, [], []⟩
def d_is_statement : He.DefD := ⟨("is_statement", none), "is_statement", "is_statement", defArgs s_is_statement, defBody s_is_statement, defScope s_is_statement, [], []⟩
def d_bodies_of : He.DefD := ⟨("bodies_of", none), "bodies_of", "bodies_of", defArgs s_bodies_of, defBody s_bodies_of, defScope s_bodies_of, [], []⟩
def d_check_body : He.DefD := ⟨("check_body", none), "check_body", "check_body", defArgs s_check_body, defBody s_check_body, defScope s_check_body, [], []⟩
def d_as_tuples : He.DefD := ⟨("as_tuples", none), "as_tuples", "as_tuples", defArgs s_as_tuples, defBody s_as_tuples, defScope s_as_tuples, [], []⟩
def d_all_statements : He.DefD := ⟨("all_statements", none), "all_statements", "all_statements", defArgs s_all_statements, defBody s_all_statements, defScope s_all_statements, [], []⟩
def d_depth_of : He.DefD := ⟨("depth_of", none), "depth_of", "depth_of", defArgs s_depth_of, defBody s_depth_of, defScope s_depth_of, [], []⟩
def d_check_size : He.DefD := ⟨("check_size", none), "check_size", "check_size", defArgs s_check_size, defBody s_check_size, defScope s_check_size, [], []⟩
def d_names_in : He.DefD := ⟨("names_in", none), "names_in", "names_in", defArgs s_names_in, defBody s_names_in, defScope s_names_in, [], []⟩
def d_Program_init : He.DefD := ⟨("Program", some "__init__"), "__init__", "Program.__init__", defArgs s_Program_init, defBody s_Program_init, defScope s_Program_init, [], []⟩
def d_Program_eq : He.DefD := ⟨("Program", some "__eq__"), "__eq__", "Program.__eq__", defArgs s_Program_eq, defBody s_Program_eq, defScope s_Program_eq, [], []⟩
def d_Program_reads : He.DefD := ⟨("Program", some "reads"), "reads", "Program.reads", defArgs s_Program_reads, defBody s_Program_reads, defScope s_Program_reads, [], []⟩
def d_Program_keys_of : He.DefD := ⟨("Program", some "keys_of"), "keys_of", "Program.keys_of", defArgs s_Program_keys_of, defBody s_Program_keys_of, defScope s_Program_keys_of, [], []⟩
def d_Program_variables : He.DefD := ⟨("Program", some "variables"), "variables", "Program.variables", defArgs s_Program_variables, defBody s_Program_variables, defScope s_Program_variables, [], []⟩
def d_Outcome_init : He.DefD := ⟨("Outcome", some "__init__"), "__init__", "Outcome.__init__", defArgs s_Outcome_init, defBody s_Outcome_init, defScope s_Outcome_init, [], []⟩
def d_check_keys : He.DefD := ⟨("check_keys", none), "check_keys", "check_keys", defArgs s_check_keys, defBody s_check_keys, defScope s_check_keys, [], []⟩
def d_check_schedule : He.DefD := ⟨("check_schedule", none), "check_schedule", "check_schedule", defArgs s_check_schedule, defBody s_check_schedule, defScope s_check_schedule, [], []⟩
def d_Runner_init : He.DefD := ⟨("Runner", some "__init__"), "__init__", "Runner.__init__", defArgs s_Runner_init, defBody s_Runner_init, defScope s_Runner_init, [], []⟩
def d_Runner_wait : He.DefD := ⟨("Runner", some "wait"), "wait", "Runner.wait", defArgs s_Runner_wait, defBody s_Runner_wait, defScope s_Runner_wait, [], []⟩
def d_Runner_value_of : He.DefD := ⟨("Runner", some "value_of"), "value_of", "Runner.value_of", defArgs s_Runner_value_of, defBody s_Runner_value_of, defScope s_Runner_value_of, [], []⟩
def d_Runner_branch : He.DefD := ⟨("Runner", some "branch"), "branch", "Runner.branch", defArgs s_Runner_branch, defBody s_Runner_branch, defScope s_Runner_branch, [], []⟩
def d_Runner_statement : He.DefD := ⟨("Runner", some "statement"), "statement", "Runner.statement", defArgs s_Runner_statement, defBody s_Runner_statement, defScope s_Runner_statement, [], []⟩
def d_Runner_execute : He.DefD := ⟨("Runner", some "execute"), "execute", "Runner.execute", defArgs s_Runner_execute, defBody s_Runner_execute, defScope s_Runner_execute, [], []⟩
def d_run : He.DefD := ⟨("run", none), "run", "run", defArgs s_run, defBody s_run, defScope s_run, [.adr (He.dflAt ("run", none) 0), .adr (He.dflAt ("run", none) 1)], []⟩
def d_with_state : He.DefD := ⟨("with_state", none), "with_state", "with_state", defArgs s_with_state, defBody s_with_state, defScope s_with_state, [], []⟩
def d_states_from : He.DefD := ⟨("states_from", none), "states_from", "states_from", defArgs s_states_from, defBody s_states_from, defScope s_states_from, [], []⟩
def d_Ground_init : He.DefD := ⟨("Ground", some "__init__"), "__init__", "Ground.__init__", defArgs s_Ground_init, defBody s_Ground_init, defScope s_Ground_init, [], []⟩
def d_Ground_padded : He.DefD := ⟨("Ground", some "padded"), "padded", "Ground.padded", defArgs s_Ground_padded, defBody s_Ground_padded, defScope s_Ground_padded, [], []⟩
def d_steps_of : He.DefD := ⟨("steps_of", none), "steps_of", "steps_of", defArgs s_steps_of, defBody s_steps_of, defScope s_steps_of, [], []⟩
def d_Spot_init : He.DefD := ⟨("Spot", some "__init__"), "__init__", "Spot.__init__", defArgs s_Spot_init, defBody s_Spot_init, defScope s_Spot_init, [], []⟩
def d_Spot_mark : He.DefD := ⟨("Spot", some "mark"), "mark", "Spot.mark", defArgs s_Spot_mark, defBody s_Spot_mark, defScope s_Spot_mark, [], []⟩
def d_value_in : He.DefD := ⟨("value_in", none), "value_in", "value_in", defArgs s_value_in, defBody s_value_in, defScope s_value_in, [], []⟩
def d_with_value : He.DefD := ⟨("with_value", none), "with_value", "with_value", defArgs s_with_value, defBody s_with_value, defScope s_with_value, [], []⟩
def d_moved : He.DefD := ⟨("moved", none), "moved", "moved", defArgs s_moved, defBody s_moved, defScope s_moved, [], []⟩
def d_is_over : He.DefD := ⟨("is_over", none), "is_over", "is_over", defArgs s_is_over, defBody s_is_over, defScope s_is_over, [], []⟩
def d_at_wait : He.DefD := ⟨("at_wait", none), "at_wait", "at_wait", defArgs s_at_wait, defBody s_at_wait, defScope s_at_wait, [], []⟩
def d_reachable : He.DefD := ⟨("reachable", none), "reachable", "reachable", defArgs s_reachable, defBody s_reachable, defScope s_reachable, [], []⟩
def d_Desk_init : He.DefD := ⟨("Desk", some "__init__"), "__init__", "Desk.__init__", defArgs s_Desk_init, defBody s_Desk_init, defScope s_Desk_init, [], []⟩
def d_Desk_go_to : He.DefD := ⟨("Desk", some "go_to"), "go_to", "Desk.go_to", defArgs s_Desk_go_to, defBody s_Desk_go_to, defScope s_Desk_go_to, [], []⟩
def d_Desk_after : He.DefD := ⟨("Desk", some "after"), "after", "Desk.after", defArgs s_Desk_after, defBody s_Desk_after, defScope s_Desk_after, [], []⟩
def d_Desk_allow : He.DefD := ⟨("Desk", some "allow"), "allow", "Desk.allow", defArgs s_Desk_allow, defBody s_Desk_allow, defScope s_Desk_allow, [], []⟩
def d_Desk_forbid : He.DefD := ⟨("Desk", some "forbid"), "forbid", "Desk.forbid", defArgs s_Desk_forbid, defBody s_Desk_forbid, defScope s_Desk_forbid, [], []⟩
def d_Desk_getitem : He.DefD := ⟨("Desk", some "__getitem__"), "__getitem__", "Desk.__getitem__", defArgs s_Desk_getitem, defBody s_Desk_getitem, defScope s_Desk_getitem, [], []⟩
def d_Desk_setitem : He.DefD := ⟨("Desk", some "__setitem__"), "__setitem__", "Desk.__setitem__", defArgs s_Desk_setitem, defBody s_Desk_setitem, defScope s_Desk_setitem, [], []⟩
def d_Desk_iter : He.DefD := ⟨("Desk", some "__iter__"), "__iter__", "Desk.__iter__", defArgs s_Desk_iter, defBody s_Desk_iter, defScope s_Desk_iter, [], []⟩
def d_Desk_undo : He.DefD := ⟨("Desk", some "undo"), "undo", "Desk.undo", defArgs s_Desk_undo, defBody s_Desk_undo, defScope s_Desk_undo, [], []⟩
def d_Watch_init : He.DefD := ⟨("Watch", some "__init__"), "__init__", "Watch.__init__", defArgs s_Watch_init, defBody s_Watch_init, defScope s_Watch_init, [], []⟩
def d_Watch_mark : He.DefD := ⟨("Watch", some "mark"), "mark", "Watch.mark", defArgs s_Watch_mark, defBody s_Watch_mark, defScope s_Watch_mark, [], []⟩
def d_seen_value : He.DefD := ⟨("seen_value", none), "seen_value", "seen_value", defArgs s_seen_value, defBody s_seen_value, defScope s_seen_value, [], []⟩
def d_begin_watch : He.DefD := ⟨("begin_watch", none), "begin_watch", "begin_watch", defArgs s_begin_watch, defBody s_begin_watch, defScope s_begin_watch, [], []⟩
def d_torn_here : He.DefD := ⟨("torn_here", none), "torn_here", "torn_here", defArgs s_torn_here, defBody s_torn_here, defScope s_torn_here, [], []⟩
def d_with_state_met : He.DefD := ⟨("with_state_met", none), "with_state_met", "with_state_met", defArgs s_with_state_met, defBody s_with_state_met, defScope s_with_state_met, [], []⟩
def d_followers : He.DefD := ⟨("followers", none), "followers", "followers", defArgs s_followers, defBody s_followers, defScope s_followers, [], []⟩
def d_is_new : He.DefD := ⟨("is_new", none), "is_new", "is_new", defArgs s_is_new, defBody s_is_new, defScope s_is_new, [], []⟩
def d_torn_schedules : He.DefD := ⟨("torn_schedules", none), "torn_schedules", "torn_schedules", defArgs s_torn_schedules, defBody s_torn_schedules, defScope s_torn_schedules, [], []⟩
def d_torn_by : He.DefD := ⟨("torn_by", none), "torn_by", "torn_by", defArgs s_torn_by, defBody s_torn_by, defScope s_torn_by, [], []⟩
def d_number_of : He.DefD := ⟨("number_of", none), "number_of", "number_of", defArgs s_number_of, defBody s_number_of, defScope s_number_of, [], []⟩
def d_item_of : He.DefD := ⟨("item_of", none), "item_of", "item_of", defArgs s_item_of, defBody s_item_of, defScope s_item_of, [], []⟩
def d_plain_statement : He.DefD := ⟨("plain_statement", none), "plain_statement", "plain_statement", defArgs s_plain_statement, defBody s_plain_statement, defScope s_plain_statement, [], []⟩
def d_body_of : He.DefD := ⟨("body_of", none), "body_of", "body_of", defArgs s_body_of, defBody s_body_of, defScope s_body_of, [], []⟩
def d_read : He.DefD := ⟨("read", none), "read", "read", defArgs s_read, defBody s_read, defScope s_read, [], []⟩
def d_law_begin : He.DefD := ⟨("_law_begin", none), "_law_begin", "_law_begin", defArgs s_law_begin, defBody s_law_begin, defScope s_law_begin, [], []⟩
def d_law_draw : He.DefD := ⟨("_law_draw", none), "_law_draw", "_law_draw", defArgs s_law_draw, defBody s_law_draw, defScope s_law_draw, [], []⟩
def d_law_first : He.DefD := ⟨("_law_first", none), "_law_first", "_law_first", defArgs s_law_first, defBody s_law_first, defScope s_law_first, [], []⟩
def d_law_second : He.DefD := ⟨("_law_second", none), "_law_second", "_law_second", defArgs s_law_second, defBody s_law_second, defScope s_law_second, [], []⟩
def d_law_kinds : He.DefD := ⟨("_law_kinds", none), "_law_kinds", "_law_kinds", defArgs s_law_kinds, defBody s_law_kinds, defScope s_law_kinds, [], []⟩
def d_law : He.DefD := ⟨("law", none), "law", "law", defArgs s_law, defBody s_law, defScope s_law, [], []⟩
def fnL : List He.DefD := [d_BadValue_init, d_NoKey_init, d_BadStatement_init, d_BadSchedule_init, d_BadText_init, d_NoChange_init, d_is_word, d_is_value, d_checked, d_Change_init, d_Change_settings, d_Change_eq, d_Change_add, d_Change_contains, d_Change_len, d_Change_bool, d_Surroundings_init, d_Surroundings_keys_of, d_Surroundings_state, d_Surroundings_getitem, d_Surroundings_setitem, d_Surroundings_iter, d_Surroundings_add, d_Surroundings_radd, d_Surroundings_iadd, d_Surroundings_eq, d_Surroundings_contains, d_Surroundings_len, d_changed, d_is_item, d_is_statement, d_bodies_of, d_check_body, d_as_tuples, d_all_statements, d_depth_of, d_check_size, d_names_in, d_Program_init, d_Program_eq, d_Program_reads, d_Program_keys_of, d_Program_variables, d_Outcome_init, d_check_keys, d_check_schedule, d_Runner_init, d_Runner_wait, d_Runner_value_of, d_Runner_branch, d_Runner_statement, d_Runner_execute, d_run, d_with_state, d_states_from, d_Ground_init, d_Ground_padded, d_steps_of, d_Spot_init, d_Spot_mark, d_value_in, d_with_value, d_moved, d_is_over, d_at_wait, d_reachable, d_Desk_init, d_Desk_go_to, d_Desk_after, d_Desk_allow, d_Desk_forbid, d_Desk_getitem, d_Desk_setitem, d_Desk_iter, d_Desk_undo, d_Watch_init, d_Watch_mark, d_seen_value, d_begin_watch, d_torn_here, d_with_state_met, d_followers, d_is_new, d_torn_schedules, d_torn_by, d_number_of, d_item_of, d_plain_statement, d_body_of, d_read, d_law_begin, d_law_draw, d_law_first, d_law_second, d_law_kinds, d_law]
def fa0 : List He.Fa := [.glo "is_word", .glo "is_value", .glo "checked", .glo "changed", .glo "is_item", .glo "is_statement", .glo "bodies_of", .glo "check_body", .glo "as_tuples", .glo "all_statements", .glo "depth_of", .glo "check_size", .glo "names_in", .glo "check_keys", .glo "check_schedule", .glo "run", .glo "with_state", .glo "states_from", .glo "steps_of", .glo "value_in", .glo "with_value", .glo "moved", .glo "is_over", .glo "at_wait", .glo "reachable", .glo "seen_value", .glo "begin_watch", .glo "torn_here", .glo "with_state_met", .glo "followers"]
def fa1 : List He.Fa := [.glo "is_new", .glo "torn_schedules", .glo "torn_by", .glo "number_of", .glo "item_of", .glo "plain_statement", .glo "body_of", .glo "read", .glo "_law_begin", .glo "_law_draw", .glo "_law_first", .glo "_law_second", .glo "_law_kinds", .glo "law", .glo "MomentError", .glo "BadValues", .glo "TooLong", .glo "TooDeep", .glo "TooMany", .glo "NoRead", .glo "NothingToUndo", .glo "BadValue", .glo "NoKey", .glo "BadStatement", .glo "BadSchedule", .glo "BadText", .glo "NoChange", .glo "Change", .glo "Surroundings", .glo "Program"]
def fa2 : List He.Fa := [.glo "Outcome", .glo "Runner", .glo "Ground", .glo "Spot", .glo "Desk", .glo "Watch", .free "NotImplemented", .free "TypeError", .free "ValueError", .free "all", .free "any", .free "bool", .free "dict", .free "enumerate", .free "int", .free "isinstance", .free "len", .free "list", .free "max", .free "range", .free "sorted", .free "str", .free "tuple", .free "zip", .str "LETTERS" "abcdefghijklmnopqrstuvwxyz", .int "LONGEST" 6, .int "GREATEST" 99, .int "MOST_surroundings" 4, .int "MOST_programs" 60, .int "DEEPEST" 4]
def fa3 : List He.Fa := [.glo "FORMS", .int "MOST_steps" 16, .str "FIGURES" "0123456789", .cls "Change", .mkr "Change", .meth "Change" "__init__", .meth "Change" "settings", .meth "Change" "__eq__", .meth "Change" "__add__", .meth "Change" "__contains__", .meth "Change" "__len__", .meth "Change" "__bool__", .noat "Change" "given", .cls "Surroundings", .mkr "Surroundings", .meth "Surroundings" "__init__", .meth "Surroundings" "keys_of", .meth "Surroundings" "state", .meth "Surroundings" "__getitem__", .meth "Surroundings" "__setitem__", .meth "Surroundings" "__iter__", .meth "Surroundings" "__add__", .meth "Surroundings" "__radd__", .meth "Surroundings" "__iadd__", .meth "Surroundings" "__eq__", .meth "Surroundings" "__contains__", .meth "Surroundings" "__len__", .noat "Surroundings" "now", .cls "Program", .mkr "Program"]
def fa4 : List He.Fa := [.meth "Program" "__init__", .meth "Program" "__eq__", .meth "Program" "reads", .meth "Program" "keys_of", .meth "Program" "variables", .noat "Program" "body", .cls "Outcome", .mkr "Outcome", .meth "Outcome" "__init__", .noat "Outcome" "ended", .noat "Outcome" "looked", .noat "Outcome" "printed", .noat "Outcome" "waits", .noat "Outcome" "went", .cls "Runner", .mkr "Runner", .meth "Runner" "__init__", .meth "Runner" "wait", .meth "Runner" "value_of", .meth "Runner" "branch", .meth "Runner" "statement", .meth "Runner" "execute", .noat "Runner" "choices", .noat "Runner" "held", .noat "Runner" "outcome", .noat "Runner" "place", .noat "Runner" "plan", .noat "Runner" "stopped", .cls "Ground", .mkr "Ground"]
def fa5 : List He.Fa := [.meth "Ground" "__init__", .meth "Ground" "frozen_at", .meth "Ground" "padded", .noat "Ground" "choices", .noat "Ground" "given", .noat "Ground" "home", .noat "Ground" "next_states", .noat "Ground" "places", .noat "Ground" "states", .noat "Ground" "steps", .noat "Ground" "subject", .cls "Spot", .mkr "Spot", .meth "Spot" "__init__", .meth "Spot" "mark", .noat "Spot" "held", .noat "Spot" "here", .noat "Spot" "printed", .noat "Spot" "step", .cls "Desk", .mkr "Desk", .meth "Desk" "__init__", .meth "Desk" "go_to", .meth "Desk" "after", .meth "Desk" "write_program", .meth "Desk" "allow", .meth "Desk" "forbid", .meth "Desk" "__getitem__", .meth "Desk" "__setitem__", .meth "Desk" "__iter__"]
def fa6 : List He.Fa := [.meth "Desk" "undo", .meth "Desk" "steady", .meth "Desk" "answers", .meth "Desk" "clash", .meth "Desk" "trial", .noat "Desk" "kept", .noat "Desk" "known", .noat "Desk" "past", .noat "Desk" "runs", .cls "Watch", .mkr "Watch", .meth "Watch" "__init__", .meth "Watch" "mark", .noat "Watch" "met", .noat "Watch" "read", .noat "Watch" "schedule", .noat "Watch" "spot", .exc "MomentError", .exc "BadValues", .exc "TooLong", .exc "TooDeep", .exc "TooMany", .exc "NoRead", .exc "NothingToUndo", .meth "BadValue" "__init__", .noat "BadValue" "value", .meth "NoKey" "__init__", .noat "NoKey" "key", .meth "BadStatement" "__init__", .noat "BadStatement" "path"]
def fa7 : List He.Fa := [.meth "BadSchedule" "__init__", .noat "BadSchedule" "item", .meth "BadText" "__init__", .noat "BadText" "line", .meth "NoChange" "__init__", .noat "NoChange" "number", .exm "MomentError" "MomentError" true, .exm "BadValues" "MomentError" true, .exm "TooLong" "MomentError" true, .exm "TooDeep" "MomentError" true, .exm "TooMany" "MomentError" true, .exm "NoRead" "MomentError" true, .exm "NothingToUndo" "MomentError" true, .exm "BadValue" "MomentError" true, .exm "NoKey" "MomentError" true, .exm "BadStatement" "MomentError" true, .exm "BadSchedule" "MomentError" true, .exm "BadText" "MomentError" true, .exm "NoChange" "MomentError" true]
def faL : List He.Fa := fa0 ++ fa1 ++ fa2 ++ fa3 ++ fa4 ++ fa5 ++ fa6 ++ fa7
def tsL : List He.Tab := [(fun K => He.ga K "FORMS", ["read", "set", "copy", "print", "say", "wait", "if", "same", "repeat", "stop"])]
def tab_FORMS : List (Str × He.Dv) := [("read", .str "kk"), ("set", .str "kv"), ("copy", .str "kk"), ("print", .str "k"), ("say", .str "v"), ("wait", .str ""), ("if", .str "kvbb"), ("same", .str "kkbb"), ("repeat", .str "tb"), ("stop", .str "")]
def exL : List (PySem.W.Frag → Bool) := [fun K => He.valsB K (He.ga K "FORMS") tab_FORMS, fun K => insB K "Change", fun K => kitC K "Change" "Change" true, fun K => kitC K "Change" "Surroundings" false, fun K => kitC K "Change" "Program" false, fun K => insB K "Surroundings", fun K => kitC K "Surroundings" "Change" false, fun K => kitC K "Surroundings" "Surroundings" true, fun K => kitC K "Surroundings" "Program" false, fun K => insB K "Program", fun K => kitC K "Program" "Change" false, fun K => kitC K "Program" "Surroundings" false, fun K => kitC K "Program" "Program" true, fun K => spcB K "Change" "__eq__", fun K => spcB K "Change" "__add__", fun K => spcB K "Change" "__contains__", fun K => spcB K "Change" "__len__", fun K => spcB K "Change" "__bool__", fun K => spcB K "Surroundings" "__getitem__", fun K => spcB K "Surroundings" "__setitem__", fun K => spcB K "Surroundings" "__iter__", fun K => spcB K "Surroundings" "__add__", fun K => spcB K "Surroundings" "__radd__", fun K => spcB K "Surroundings" "__iadd__", fun K => spcB K "Surroundings" "__eq__", fun K => spcB K "Surroundings" "__contains__", fun K => spcB K "Surroundings" "__len__", fun K => spcB K "Program" "__eq__", fun K => spcB K "Desk" "__getitem__", fun K => spcB K "Desk" "__setitem__", fun K => spcB K "Desk" "__iter__", fun K => oexB K (He.ga K "BadValue"), fun K => xfB K (He.ga K "BadValue"), fun K => oexB K (He.ga K "NoKey"), fun K => xfB K (He.ga K "NoKey"), fun K => oexB K (He.ga K "BadStatement"), fun K => xfB K (He.ga K "BadStatement"), fun K => oexB K (He.ga K "BadSchedule"), fun K => xfB K (He.ga K "BadSchedule"), fun K => oexB K (He.ga K "BadText"), fun K => xfB K (He.ga K "BadText"), fun K => oexB K (He.ga K "NoChange"), fun K => xfB K (He.ga K "NoChange"), fun K => empB K (He.dflAt ("run", none) 0 K), fun K => empB K (He.dflAt ("run", none) 1 K), fun K => neB K "Change", fun K => neB K "Surroundings", fun K => neB K "Program", fun K => twoB K "Surroundings" "Change", fun K => PySem.W.noSeq K (He.ga K "Surroundings"), fun K => kindsB K ["BadValues", "TooLong", "TooDeep", "TooMany", "NoRead", "NothingToUndo", "BadValue", "NoKey", "BadStatement", "BadSchedule", "BadText", "NoChange"], fun K => keysB K (He.ga K "FORMS") ["read", "set", "copy", "print", "say", "wait", "if", "same", "repeat", "stop"], fun K => He.eqO (PySem.W.nsIn K (He.ga K "FORMS") "loop") (some none)]
def exB (K : PySem.W.Frag) : Bool := exL.all fun f => f K
def nm0 : List PySem.Str := ["_wall", "MomentError", "BadValues", "TooLong", "TooDeep", "TooMany", "NoRead", "NothingToUndo", "BadValue", "NoKey", "BadStatement", "BadSchedule", "BadText", "NoChange", "LETTERS", "LONGEST", "GREATEST", "MOST_surroundings", "is_word", "is_value", "checked", "Change", "Surroundings", "changed", "MOST_programs", "DEEPEST", "FORMS", "is_item", "is_statement", "bodies_of"]
def nm1 : List PySem.Str := ["check_body", "as_tuples", "all_statements", "depth_of", "check_size", "names_in", "Program", "Outcome", "check_keys", "check_schedule", "Runner", "run", "with_state", "MOST_steps", "states_from", "Ground", "steps_of", "Spot", "value_in", "with_value", "moved", "is_over", "at_wait", "reachable", "Desk", "Watch", "seen_value", "begin_watch", "torn_here", "with_state_met"]
def nm2 : List PySem.Str := ["followers", "is_new", "torn_schedules", "torn_by", "FIGURES", "number_of", "item_of", "plain_statement", "body_of", "read", "_law_begin", "_law_draw", "_law_first", "_law_second", "_law_kinds"]
def names : List PySem.Str := nm0 ++ nm1 ++ nm2
abbrev R : PySem.W.OpenRow := PySem.W.OpenLaw.row PySem.Challenge.rw_readmoments_k23_errors_are_apart
def as0 : List Nat := [2, 3, 15, 17, 18, 20, 21, 22, 29, 30, 31, 32, 35, 42, 43, 44, 47, 54, 55, 56, 59, 66, 67, 68, 71, 78, 79, 80, 83, 90, 91, 92, 95, 102, 103, 104, 107, 114, 116, 117]
def as1 : List Nat := [119, 120, 121, 122, 123, 126, 133, 135, 136, 138, 139, 140, 141, 142, 145, 152, 154, 155, 157, 158, 159, 160, 161, 164, 171, 173, 174, 176, 177, 178, 179, 180, 183, 190, 192, 193, 195, 196, 197, 198]
def as2 : List Nat := [199, 202, 209, 211, 212, 214, 215, 216, 217, 218, 221, 223, 224, 226, 227, 228, 230, 231, 233, 234, 235, 238, 239, 247, 249, 250, 252, 253, 254, 257, 258, 259, 261, 262, 264, 265, 266, 268, 269, 271]
def as3 : List Nat := [272, 273, 275, 276, 278, 279, 280, 282, 283, 285, 286, 287, 289, 290, 292, 293, 294, 295, 296, 297, 298, 308, 310, 311, 313, 314, 315, 317, 318, 320, 321, 322, 325, 326, 327, 329, 330, 332, 333, 334]
def as4 : List Nat := [336, 337, 339, 340, 341, 343, 344, 346, 347, 348, 350, 351, 353, 354, 355, 357, 358, 360, 361, 362, 364, 365, 367, 368, 369, 371, 372, 374, 375, 376, 378, 379, 381, 382, 383, 385, 386, 388, 389, 390]
def as5 : List Nat := [391, 392, 393, 394, 397, 399, 400, 402, 403, 404, 405, 407, 408, 410, 411, 412, 415, 416, 417, 420, 421, 422, 424, 425, 427, 428, 429, 432, 433, 434, 436, 437, 439, 440, 441, 443, 444, 446, 447, 448]
def as6 : List Nat := [450, 451, 453, 454, 455, 458, 459, 467, 469, 470, 472, 473, 474, 476, 477, 479, 480, 481, 484, 485, 486, 489, 490, 491, 494, 495, 496, 497, 498, 499, 500, 510, 512, 513, 515, 516, 517, 519, 520, 522]
def as7 : List Nat := [523, 524, 525, 527, 528, 530, 531, 532, 533, 534, 535, 536, 537, 540, 542, 543, 545, 546, 547, 549, 550, 552, 553, 561, 563, 564, 566, 567, 568, 570, 571, 573, 574, 575, 577, 578, 580, 581, 582, 584]
def as8 : List Nat := [585, 587, 588, 589, 591, 592, 594, 595, 596, 598, 599, 601, 602, 603, 604, 605, 606, 607, 610, 611, 612, 613, 615, 616, 618, 619, 620, 622, 623, 625, 626, 627, 629, 630, 632, 633, 641, 644, 645, 646]
def as9 : List Nat := [648, 649, 651, 652, 653, 656, 657, 658, 659, 660, 661, 662, 665, 667, 668, 670, 671, 679, 681, 682, 684, 685, 686, 688, 689, 691, 692, 693, 694, 695, 696, 697, 700, 702, 703, 705, 706, 707, 710, 711]
def as10 : List Nat := [712, 714, 715, 717, 718, 719, 721, 722, 724, 725, 726, 728, 729, 731, 732, 733, 735, 736, 738, 739, 747, 749, 750, 752, 753, 754, 756, 757, 759, 760, 761, 762, 764, 765, 767, 768, 769, 770, 772, 773]
def as11 : List Nat := [775, 776, 777, 778, 780, 781, 783, 784, 785, 786, 788, 789, 791, 792, 793, 795, 796, 798, 799, 800, 802, 803, 805, 806, 807, 809, 810, 812, 813, 814, 816, 817, 819, 820, 821, 823, 824, 826, 827, 828]
def as12 : List Nat := [830, 831, 833, 834, 835, 837, 838, 840, 841, 842, 844, 845, 847, 848, 849, 851, 852, 854, 855, 856, 858, 859, 861, 862, 863, 865, 866, 868, 869, 870, 872, 873, 875, 876, 877, 878, 879, 880, 881, 891]
def as13 : List Nat := [893, 894, 896, 897, 898, 900, 901, 903, 904, 905, 906, 907, 908, 909, 912, 914, 915, 917, 918, 919, 921, 922, 924, 925, 926, 929, 930, 931, 933, 934, 936, 937, 938, 940, 941, 943, 944, 945, 948, 949]
def as14 : List Nat := [950, 952, 953, 955, 956, 957, 960, 961, 962, 964, 965, 967, 968, 969, 971, 972, 974, 975, 976, 979, 980, 981, 983, 984, 986, 987, 988, 990, 991, 993, 994, 995, 997, 998, 1000, 1001, 1002, 1004, 1005, 1007]
def as15 : List Nat := [1008, 1009, 1012, 1013, 1014, 1016, 1017, 1019, 1020, 1021, 1023, 1024, 1026, 1027, 1028, 1031, 1032]
def asL : List Nat := as0 ++ as1 ++ as2 ++ as3 ++ as4 ++ as5 ++ as6 ++ as7 ++ as8 ++ as9 ++ as10 ++ as11 ++ as12 ++ as13 ++ as14 ++ as15
def obL (g : Addr → Option Obj) : He.AlX := (He.obsT faL fnL tsL (He.frT g asL), exB (He.frT g asL))
abbrev hk : PySem.W.Hook where
  α := He.AlX
  obs := fun s => obL s.heap.get?
  val := fun w => He.valX fnL tsL w
  says := fun w h => ∃ K : PySem.W.Frag, K.In h ∧ He.SaysX faL fnL tsL [] exB w h K
  of := fun w s e => ⟨_, He.frT_in, ⟨congrArg (fun z : He.AlX => z.1) e, congrArg (fun z : He.AlX => z.2) e, fun p hp => (List.not_mem_nil hp).elim, fun p hp => (List.not_mem_nil hp).elim, fun p hp => (List.not_mem_nil hp).elim⟩⟩
  keeps := fun _ _ _ ⟨K, hK, c⟩ k => ⟨K, PySem.W.Frag.In.keeps hK k, ⟨c.t, c.more, c.hd, c.out, fun p hp => k _ _ (c.empty p hp)⟩⟩
def ob (s : PySem.W.SharedT) : He.AlX := obL (HandSHeadRun.getT s)
theorem ob_eq (s : PySem.W.SharedT) : ob s = hk.obs s.abs := by
  have e : HandSHeadRun.getT s = s.abs.heap.get? := funext (HandSHeadRun.getT_eq s)
  show obL (HandSHeadRun.getT s) = obL s.abs.heap.get?
  rw [e]
abbrev frL (s : PySem.W.SharedT) : PySem.W.Frag := He.frT (HandSHeadRun.getT s) asL
noncomputable abbrev EndS (w : World) (os : OsState) : Option PySem.W.SharedT := HandSHeadRun.endF (HandSHeadRun.stepQ (HandSHeadRun.denQ HandSHeadRun.tabQ) R.prog w) 9000 R.prog w os
theorem two_halves {S α : Type} {x : Option S} {l : List α} {f : S → α → Bool} (n : Nat) (a : x.map (fun s => (l.take n).all (f s)) = some true) (b : x.map (fun s => (l.drop n).all (f s)) = some true) : x.map (fun s => l.all (f s)) = some true := by
  cases x with
  | none => cases a
  | some s =>
    have a1 : (l.take n).all (f s) = true := Option.some.inj a
    have b1 : (l.drop n).all (f s) = true := Option.some.inj b
    show some (l.all (f s)) = some true
    rw [← List.take_append_drop n l, List.all_append, a1, b1]
    rfl
theorem glue {S β : Type} {x : Option S} {l fa fn ex : S → Bool} {sn : S → β} {good : β} {fw : S → List He.FnW} {vw : List He.FnW} {dc : S → List (Option (List (Option (PySem.Str × Int))))} {vd : List (Option (List (Option (PySem.Str × Int))))}
    (a : x.map (fun s => (l s, sn s)) = some (true, good)) (b : x.map fa = some true) (c : x.map fn = some true) (d : x.map fw = some vw) (e : x.map (fun s => (dc s, ex s)) = some (vd, true)) :
    x.map (fun s => (l s, sn s, ((((fa s && fn s), fw s), dc s), ex s))) = some (true, good, (((true, vw), vd), true)) := by
  cases x with
  | none => cases b
  | some s =>
    have a1 : (l s, sn s) = (true, good) := Option.some.inj a
    have b1 : fa s = true := Option.some.inj b
    have c1 : fn s = true := Option.some.inj c
    have d1 : fw s = vw := Option.some.inj d
    have e1 : (dc s, ex s) = (vd, true) := Option.some.inj e
    injection a1 with a2 a3
    injection e1 with e2 e3
    show some (l s, sn s, ((((fa s && fn s), fw s), dc s), ex s)) = _
    rw [a2, a3, b1, c1, d1, e2, e3]
    rfl
theorem run0_a (w : World) (os : OsState) : (EndS (w.withFollow "special-get-raises" false) os).map (fun s => (HandSHeadRun.looksF R.prog (PySem.W.boot_heap (w.withFollow "special-get-raises" false).params) s.abs, HandSHeadRun.seenQ (PySem.W.view R.prog [85]) names (importedModules R.prog.main.body) (fun s => PySem.W.xlAt (PySem.W.view R.prog [85]) [] s && PySem.W.recOk R.toRowW.records s) s.abs)) = some (true, PySem.W.openGood (PySem.W.view R.prog [85]) names) := by kernel_rfl
theorem run0_b (w : World) (os : OsState) : (EndS (w.withFollow "special-get-raises" false) os).map (fun s => faL.all fun f => f.ok (frL s)) = some true := by kernel_rfl
theorem run0_c1 (w : World) (os : OsState) : (EndS (w.withFollow "special-get-raises" false) os).map (fun s => (fnL.take 48).all fun d => d.ok (frL s)) = some true := by kernel_rfl
theorem run0_c2 (w : World) (os : OsState) : (EndS (w.withFollow "special-get-raises" false) os).map (fun s => (fnL.drop 48).all fun d => d.ok (frL s)) = some true := by kernel_rfl
theorem run0_c (w : World) (os : OsState) : (EndS (w.withFollow "special-get-raises" false) os).map (fun s => fnL.all fun d => d.ok (frL s)) = some true := two_halves 48 (run0_c1 w os) (run0_c2 w os)
theorem run0_d (w : World) (os : OsState) : (EndS (w.withFollow "special-get-raises" false) os).map (fun s => fnL.map fun d => He.fnW (frL s) d.at_) = some (fnL.map He.DefD.val) := by kernel_rfl
theorem run0_e (w : World) (os : OsState) : (EndS (w.withFollow "special-get-raises" false) os).map (fun s => (tsL.map fun t => He.dicW (frL s) (t.1 (frL s)), exB (frL s))) = some (tsL.map fun t => some (He.keysIn (w.withFollow "special-get-raises" false).params t.2), true) := by kernel_rfl
theorem run0 (w : World) : HandSHeadRun.RunEq R (PySem.W.view R.prog [85]) hk ob 9000 names (w.withFollow "special-get-raises" false) := fun os => glue (run0_a w os) (run0_b w os) (run0_c w os) (run0_d w os) (run0_e w os)
theorem run1_a (w : World) (os : OsState) : (EndS (w.withFollow "special-get-raises" true) os).map (fun s => (HandSHeadRun.looksF R.prog (PySem.W.boot_heap (w.withFollow "special-get-raises" true).params) s.abs, HandSHeadRun.seenQ (PySem.W.view R.prog [85]) names (importedModules R.prog.main.body) (fun s => PySem.W.xlAt (PySem.W.view R.prog [85]) [] s && PySem.W.recOk R.toRowW.records s) s.abs)) = some (true, PySem.W.openGood (PySem.W.view R.prog [85]) names) := by kernel_rfl
theorem run1_b (w : World) (os : OsState) : (EndS (w.withFollow "special-get-raises" true) os).map (fun s => faL.all fun f => f.ok (frL s)) = some true := by kernel_rfl
theorem run1_c1 (w : World) (os : OsState) : (EndS (w.withFollow "special-get-raises" true) os).map (fun s => (fnL.take 48).all fun d => d.ok (frL s)) = some true := by kernel_rfl
theorem run1_c2 (w : World) (os : OsState) : (EndS (w.withFollow "special-get-raises" true) os).map (fun s => (fnL.drop 48).all fun d => d.ok (frL s)) = some true := by kernel_rfl
theorem run1_c (w : World) (os : OsState) : (EndS (w.withFollow "special-get-raises" true) os).map (fun s => fnL.all fun d => d.ok (frL s)) = some true := two_halves 48 (run1_c1 w os) (run1_c2 w os)
theorem run1_d (w : World) (os : OsState) : (EndS (w.withFollow "special-get-raises" true) os).map (fun s => fnL.map fun d => He.fnW (frL s) d.at_) = some (fnL.map He.DefD.val) := by kernel_rfl
theorem run1_e (w : World) (os : OsState) : (EndS (w.withFollow "special-get-raises" true) os).map (fun s => (tsL.map fun t => He.dicW (frL s) (t.1 (frL s)), exB (frL s))) = some (tsL.map fun t => some (He.keysIn (w.withFollow "special-get-raises" true).params t.2), true) := by kernel_rfl
theorem run1 (w : World) : HandSHeadRun.RunEq R (PySem.W.view R.prog [85]) hk ob 9000 names (w.withFollow "special-get-raises" true) := fun os => glue (run1_a w os) (run1_b w os) (run1_c w os) (run1_d w os) (run1_e w os)
theorem run (w : World) : HandSHeadRun.RunEq R (PySem.W.view R.prog [85]) hk ob 9000 names w := PySem.W.byRow2 "special-get-raises" (P := fun w => HandSHeadRun.RunEq R (PySem.W.view R.prog [85]) hk ob 9000 names w) run0 run1 w
end RM

set_option Elab.async false
set_option linter.all false
set_option maxRecDepth 100000
set_option maxHeartbeats 2000000
namespace RM
open PySem PySem.Spec PyProof.Rows L2
/-- what the top has left -/
structure Top (w : World) (K : PySem.W.Frag) (mg : Str → Option Value) : Prop where
  h : ∃ hp : Heap, K.In hp ∧ hp.Ns mainGlobals mg ∧ He.SaysX faL fnL tsL [] exB w hp K
section
variable {w : World} {K : PySem.W.Frag} {mg : Str → Option Value}
theorem Top.fa (T : Top w K mg) (i : Nat) {f : He.Fa} (h : faL[i]? = some f) : f.ok K = true := let ⟨_, _, _, c⟩ := T.h; c.t.d.fact i h
theorem Top.fd (T : Top w K mg) (i : Nat) {d : He.DefD} (h : fnL[i]? = some d) : ∃ fd, FunD K d.name d.qual d.params d.body d.scope (d.dvs K) (d.kws K) (He.fAd K d.at_) fd := let ⟨_, _, _, c⟩ := T.h; c.t.d.def_ i h
theorem g_is_word (T : Top w K mg) : mg "is_word" = some (.ref (He.ga K "is_word")) := let ⟨_, X, G, _⟩ := T.h; He.glo_ok X G (T.fa 0 rfl)
theorem g_is_value (T : Top w K mg) : mg "is_value" = some (.ref (He.ga K "is_value")) := let ⟨_, X, G, _⟩ := T.h; He.glo_ok X G (T.fa 1 rfl)
theorem g_checked (T : Top w K mg) : mg "checked" = some (.ref (He.ga K "checked")) := let ⟨_, X, G, _⟩ := T.h; He.glo_ok X G (T.fa 2 rfl)
theorem g_changed (T : Top w K mg) : mg "changed" = some (.ref (He.ga K "changed")) := let ⟨_, X, G, _⟩ := T.h; He.glo_ok X G (T.fa 3 rfl)
theorem g_is_item (T : Top w K mg) : mg "is_item" = some (.ref (He.ga K "is_item")) := let ⟨_, X, G, _⟩ := T.h; He.glo_ok X G (T.fa 4 rfl)
theorem g_is_statement (T : Top w K mg) : mg "is_statement" = some (.ref (He.ga K "is_statement")) := let ⟨_, X, G, _⟩ := T.h; He.glo_ok X G (T.fa 5 rfl)
theorem g_bodies_of (T : Top w K mg) : mg "bodies_of" = some (.ref (He.ga K "bodies_of")) := let ⟨_, X, G, _⟩ := T.h; He.glo_ok X G (T.fa 6 rfl)
theorem g_check_body (T : Top w K mg) : mg "check_body" = some (.ref (He.ga K "check_body")) := let ⟨_, X, G, _⟩ := T.h; He.glo_ok X G (T.fa 7 rfl)
theorem g_as_tuples (T : Top w K mg) : mg "as_tuples" = some (.ref (He.ga K "as_tuples")) := let ⟨_, X, G, _⟩ := T.h; He.glo_ok X G (T.fa 8 rfl)
theorem g_all_statements (T : Top w K mg) : mg "all_statements" = some (.ref (He.ga K "all_statements")) := let ⟨_, X, G, _⟩ := T.h; He.glo_ok X G (T.fa 9 rfl)
theorem g_depth_of (T : Top w K mg) : mg "depth_of" = some (.ref (He.ga K "depth_of")) := let ⟨_, X, G, _⟩ := T.h; He.glo_ok X G (T.fa 10 rfl)
theorem g_check_size (T : Top w K mg) : mg "check_size" = some (.ref (He.ga K "check_size")) := let ⟨_, X, G, _⟩ := T.h; He.glo_ok X G (T.fa 11 rfl)
theorem g_names_in (T : Top w K mg) : mg "names_in" = some (.ref (He.ga K "names_in")) := let ⟨_, X, G, _⟩ := T.h; He.glo_ok X G (T.fa 12 rfl)
theorem g_check_keys (T : Top w K mg) : mg "check_keys" = some (.ref (He.ga K "check_keys")) := let ⟨_, X, G, _⟩ := T.h; He.glo_ok X G (T.fa 13 rfl)
theorem g_check_schedule (T : Top w K mg) : mg "check_schedule" = some (.ref (He.ga K "check_schedule")) := let ⟨_, X, G, _⟩ := T.h; He.glo_ok X G (T.fa 14 rfl)
theorem g_run (T : Top w K mg) : mg "run" = some (.ref (He.ga K "run")) := let ⟨_, X, G, _⟩ := T.h; He.glo_ok X G (T.fa 15 rfl)
theorem g_with_state (T : Top w K mg) : mg "with_state" = some (.ref (He.ga K "with_state")) := let ⟨_, X, G, _⟩ := T.h; He.glo_ok X G (T.fa 16 rfl)
theorem g_states_from (T : Top w K mg) : mg "states_from" = some (.ref (He.ga K "states_from")) := let ⟨_, X, G, _⟩ := T.h; He.glo_ok X G (T.fa 17 rfl)
theorem g_steps_of (T : Top w K mg) : mg "steps_of" = some (.ref (He.ga K "steps_of")) := let ⟨_, X, G, _⟩ := T.h; He.glo_ok X G (T.fa 18 rfl)
theorem g_value_in (T : Top w K mg) : mg "value_in" = some (.ref (He.ga K "value_in")) := let ⟨_, X, G, _⟩ := T.h; He.glo_ok X G (T.fa 19 rfl)
theorem g_with_value (T : Top w K mg) : mg "with_value" = some (.ref (He.ga K "with_value")) := let ⟨_, X, G, _⟩ := T.h; He.glo_ok X G (T.fa 20 rfl)
theorem g_moved (T : Top w K mg) : mg "moved" = some (.ref (He.ga K "moved")) := let ⟨_, X, G, _⟩ := T.h; He.glo_ok X G (T.fa 21 rfl)
theorem g_is_over (T : Top w K mg) : mg "is_over" = some (.ref (He.ga K "is_over")) := let ⟨_, X, G, _⟩ := T.h; He.glo_ok X G (T.fa 22 rfl)
theorem g_at_wait (T : Top w K mg) : mg "at_wait" = some (.ref (He.ga K "at_wait")) := let ⟨_, X, G, _⟩ := T.h; He.glo_ok X G (T.fa 23 rfl)
theorem g_reachable (T : Top w K mg) : mg "reachable" = some (.ref (He.ga K "reachable")) := let ⟨_, X, G, _⟩ := T.h; He.glo_ok X G (T.fa 24 rfl)
theorem g_seen_value (T : Top w K mg) : mg "seen_value" = some (.ref (He.ga K "seen_value")) := let ⟨_, X, G, _⟩ := T.h; He.glo_ok X G (T.fa 25 rfl)
theorem g_begin_watch (T : Top w K mg) : mg "begin_watch" = some (.ref (He.ga K "begin_watch")) := let ⟨_, X, G, _⟩ := T.h; He.glo_ok X G (T.fa 26 rfl)
theorem g_torn_here (T : Top w K mg) : mg "torn_here" = some (.ref (He.ga K "torn_here")) := let ⟨_, X, G, _⟩ := T.h; He.glo_ok X G (T.fa 27 rfl)
theorem g_with_state_met (T : Top w K mg) : mg "with_state_met" = some (.ref (He.ga K "with_state_met")) := let ⟨_, X, G, _⟩ := T.h; He.glo_ok X G (T.fa 28 rfl)
theorem g_followers (T : Top w K mg) : mg "followers" = some (.ref (He.ga K "followers")) := let ⟨_, X, G, _⟩ := T.h; He.glo_ok X G (T.fa 29 rfl)
theorem g_is_new (T : Top w K mg) : mg "is_new" = some (.ref (He.ga K "is_new")) := let ⟨_, X, G, _⟩ := T.h; He.glo_ok X G (T.fa 30 rfl)
theorem g_torn_schedules (T : Top w K mg) : mg "torn_schedules" = some (.ref (He.ga K "torn_schedules")) := let ⟨_, X, G, _⟩ := T.h; He.glo_ok X G (T.fa 31 rfl)
theorem g_torn_by (T : Top w K mg) : mg "torn_by" = some (.ref (He.ga K "torn_by")) := let ⟨_, X, G, _⟩ := T.h; He.glo_ok X G (T.fa 32 rfl)
theorem g_number_of (T : Top w K mg) : mg "number_of" = some (.ref (He.ga K "number_of")) := let ⟨_, X, G, _⟩ := T.h; He.glo_ok X G (T.fa 33 rfl)
theorem g_item_of (T : Top w K mg) : mg "item_of" = some (.ref (He.ga K "item_of")) := let ⟨_, X, G, _⟩ := T.h; He.glo_ok X G (T.fa 34 rfl)
theorem g_plain_statement (T : Top w K mg) : mg "plain_statement" = some (.ref (He.ga K "plain_statement")) := let ⟨_, X, G, _⟩ := T.h; He.glo_ok X G (T.fa 35 rfl)
theorem g_body_of (T : Top w K mg) : mg "body_of" = some (.ref (He.ga K "body_of")) := let ⟨_, X, G, _⟩ := T.h; He.glo_ok X G (T.fa 36 rfl)
theorem g_read (T : Top w K mg) : mg "read" = some (.ref (He.ga K "read")) := let ⟨_, X, G, _⟩ := T.h; He.glo_ok X G (T.fa 37 rfl)
theorem g_law_begin (T : Top w K mg) : mg "_law_begin" = some (.ref (He.ga K "_law_begin")) := let ⟨_, X, G, _⟩ := T.h; He.glo_ok X G (T.fa 38 rfl)
theorem g_law_draw (T : Top w K mg) : mg "_law_draw" = some (.ref (He.ga K "_law_draw")) := let ⟨_, X, G, _⟩ := T.h; He.glo_ok X G (T.fa 39 rfl)
theorem g_law_first (T : Top w K mg) : mg "_law_first" = some (.ref (He.ga K "_law_first")) := let ⟨_, X, G, _⟩ := T.h; He.glo_ok X G (T.fa 40 rfl)
theorem g_law_second (T : Top w K mg) : mg "_law_second" = some (.ref (He.ga K "_law_second")) := let ⟨_, X, G, _⟩ := T.h; He.glo_ok X G (T.fa 41 rfl)
theorem g_law_kinds (T : Top w K mg) : mg "_law_kinds" = some (.ref (He.ga K "_law_kinds")) := let ⟨_, X, G, _⟩ := T.h; He.glo_ok X G (T.fa 42 rfl)
theorem g_law (T : Top w K mg) : mg "law" = some (.ref (He.ga K "law")) := let ⟨_, X, G, _⟩ := T.h; He.glo_ok X G (T.fa 43 rfl)
theorem g_MomentError (T : Top w K mg) : mg "MomentError" = some (.ref (He.ga K "MomentError")) := let ⟨_, X, G, _⟩ := T.h; He.glo_ok X G (T.fa 44 rfl)
theorem g_BadValues (T : Top w K mg) : mg "BadValues" = some (.ref (He.ga K "BadValues")) := let ⟨_, X, G, _⟩ := T.h; He.glo_ok X G (T.fa 45 rfl)
theorem g_TooLong (T : Top w K mg) : mg "TooLong" = some (.ref (He.ga K "TooLong")) := let ⟨_, X, G, _⟩ := T.h; He.glo_ok X G (T.fa 46 rfl)
theorem g_TooDeep (T : Top w K mg) : mg "TooDeep" = some (.ref (He.ga K "TooDeep")) := let ⟨_, X, G, _⟩ := T.h; He.glo_ok X G (T.fa 47 rfl)
theorem g_TooMany (T : Top w K mg) : mg "TooMany" = some (.ref (He.ga K "TooMany")) := let ⟨_, X, G, _⟩ := T.h; He.glo_ok X G (T.fa 48 rfl)
theorem g_NoRead (T : Top w K mg) : mg "NoRead" = some (.ref (He.ga K "NoRead")) := let ⟨_, X, G, _⟩ := T.h; He.glo_ok X G (T.fa 49 rfl)
theorem g_NothingToUndo (T : Top w K mg) : mg "NothingToUndo" = some (.ref (He.ga K "NothingToUndo")) := let ⟨_, X, G, _⟩ := T.h; He.glo_ok X G (T.fa 50 rfl)
theorem g_BadValue (T : Top w K mg) : mg "BadValue" = some (.ref (He.ga K "BadValue")) := let ⟨_, X, G, _⟩ := T.h; He.glo_ok X G (T.fa 51 rfl)
theorem g_NoKey (T : Top w K mg) : mg "NoKey" = some (.ref (He.ga K "NoKey")) := let ⟨_, X, G, _⟩ := T.h; He.glo_ok X G (T.fa 52 rfl)
theorem g_BadStatement (T : Top w K mg) : mg "BadStatement" = some (.ref (He.ga K "BadStatement")) := let ⟨_, X, G, _⟩ := T.h; He.glo_ok X G (T.fa 53 rfl)
theorem g_BadSchedule (T : Top w K mg) : mg "BadSchedule" = some (.ref (He.ga K "BadSchedule")) := let ⟨_, X, G, _⟩ := T.h; He.glo_ok X G (T.fa 54 rfl)
theorem g_BadText (T : Top w K mg) : mg "BadText" = some (.ref (He.ga K "BadText")) := let ⟨_, X, G, _⟩ := T.h; He.glo_ok X G (T.fa 55 rfl)
theorem g_NoChange (T : Top w K mg) : mg "NoChange" = some (.ref (He.ga K "NoChange")) := let ⟨_, X, G, _⟩ := T.h; He.glo_ok X G (T.fa 56 rfl)
theorem g_Change (T : Top w K mg) : mg "Change" = some (.ref (He.ga K "Change")) := let ⟨_, X, G, _⟩ := T.h; He.glo_ok X G (T.fa 57 rfl)
theorem g_Surroundings (T : Top w K mg) : mg "Surroundings" = some (.ref (He.ga K "Surroundings")) := let ⟨_, X, G, _⟩ := T.h; He.glo_ok X G (T.fa 58 rfl)
theorem g_Program (T : Top w K mg) : mg "Program" = some (.ref (He.ga K "Program")) := let ⟨_, X, G, _⟩ := T.h; He.glo_ok X G (T.fa 59 rfl)
theorem g_Outcome (T : Top w K mg) : mg "Outcome" = some (.ref (He.ga K "Outcome")) := let ⟨_, X, G, _⟩ := T.h; He.glo_ok X G (T.fa 60 rfl)
theorem g_Runner (T : Top w K mg) : mg "Runner" = some (.ref (He.ga K "Runner")) := let ⟨_, X, G, _⟩ := T.h; He.glo_ok X G (T.fa 61 rfl)
theorem g_Ground (T : Top w K mg) : mg "Ground" = some (.ref (He.ga K "Ground")) := let ⟨_, X, G, _⟩ := T.h; He.glo_ok X G (T.fa 62 rfl)
theorem g_Spot (T : Top w K mg) : mg "Spot" = some (.ref (He.ga K "Spot")) := let ⟨_, X, G, _⟩ := T.h; He.glo_ok X G (T.fa 63 rfl)
theorem g_Desk (T : Top w K mg) : mg "Desk" = some (.ref (He.ga K "Desk")) := let ⟨_, X, G, _⟩ := T.h; He.glo_ok X G (T.fa 64 rfl)
theorem g_Watch (T : Top w K mg) : mg "Watch" = some (.ref (He.ga K "Watch")) := let ⟨_, X, G, _⟩ := T.h; He.glo_ok X G (T.fa 65 rfl)
theorem z_NotImplemented (T : Top w K mg) : mg "NotImplemented" = none := let ⟨_, X, G, _⟩ := T.h; He.free_ok X G (T.fa 66 rfl)
theorem z_TypeError (T : Top w K mg) : mg "TypeError" = none := let ⟨_, X, G, _⟩ := T.h; He.free_ok X G (T.fa 67 rfl)
theorem z_ValueError (T : Top w K mg) : mg "ValueError" = none := let ⟨_, X, G, _⟩ := T.h; He.free_ok X G (T.fa 68 rfl)
theorem z_all (T : Top w K mg) : mg "all" = none := let ⟨_, X, G, _⟩ := T.h; He.free_ok X G (T.fa 69 rfl)
theorem z_any (T : Top w K mg) : mg "any" = none := let ⟨_, X, G, _⟩ := T.h; He.free_ok X G (T.fa 70 rfl)
theorem z_bool (T : Top w K mg) : mg "bool" = none := let ⟨_, X, G, _⟩ := T.h; He.free_ok X G (T.fa 71 rfl)
theorem z_dict (T : Top w K mg) : mg "dict" = none := let ⟨_, X, G, _⟩ := T.h; He.free_ok X G (T.fa 72 rfl)
theorem z_enumerate (T : Top w K mg) : mg "enumerate" = none := let ⟨_, X, G, _⟩ := T.h; He.free_ok X G (T.fa 73 rfl)
theorem z_int (T : Top w K mg) : mg "int" = none := let ⟨_, X, G, _⟩ := T.h; He.free_ok X G (T.fa 74 rfl)
theorem z_isinstance (T : Top w K mg) : mg "isinstance" = none := let ⟨_, X, G, _⟩ := T.h; He.free_ok X G (T.fa 75 rfl)
theorem z_len (T : Top w K mg) : mg "len" = none := let ⟨_, X, G, _⟩ := T.h; He.free_ok X G (T.fa 76 rfl)
theorem z_list (T : Top w K mg) : mg "list" = none := let ⟨_, X, G, _⟩ := T.h; He.free_ok X G (T.fa 77 rfl)
theorem z_max (T : Top w K mg) : mg "max" = none := let ⟨_, X, G, _⟩ := T.h; He.free_ok X G (T.fa 78 rfl)
theorem z_range (T : Top w K mg) : mg "range" = none := let ⟨_, X, G, _⟩ := T.h; He.free_ok X G (T.fa 79 rfl)
theorem z_sorted (T : Top w K mg) : mg "sorted" = none := let ⟨_, X, G, _⟩ := T.h; He.free_ok X G (T.fa 80 rfl)
theorem z_str (T : Top w K mg) : mg "str" = none := let ⟨_, X, G, _⟩ := T.h; He.free_ok X G (T.fa 81 rfl)
theorem z_tuple (T : Top w K mg) : mg "tuple" = none := let ⟨_, X, G, _⟩ := T.h; He.free_ok X G (T.fa 82 rfl)
theorem z_zip (T : Top w K mg) : mg "zip" = none := let ⟨_, X, G, _⟩ := T.h; He.free_ok X G (T.fa 83 rfl)
theorem i_LETTERS (T : Top w K mg) : ∃ t, mg "LETTERS" = some (.str "abcdefghijklmnopqrstuvwxyz" t) := let ⟨_, X, G, _⟩ := T.h; He.str_ok X G (T.fa 84 rfl)
theorem i_LONGEST (T : Top w K mg) : ∃ t, mg "LONGEST" = some (.int 6 t) := let ⟨_, X, G, _⟩ := T.h; He.int_ok X G (T.fa 85 rfl)
theorem i_GREATEST (T : Top w K mg) : ∃ t, mg "GREATEST" = some (.int 99 t) := let ⟨_, X, G, _⟩ := T.h; He.int_ok X G (T.fa 86 rfl)
theorem i_MOST_surroundings (T : Top w K mg) : ∃ t, mg "MOST_surroundings" = some (.int 4 t) := let ⟨_, X, G, _⟩ := T.h; He.int_ok X G (T.fa 87 rfl)
theorem i_MOST_programs (T : Top w K mg) : ∃ t, mg "MOST_programs" = some (.int 60 t) := let ⟨_, X, G, _⟩ := T.h; He.int_ok X G (T.fa 88 rfl)
theorem i_DEEPEST (T : Top w K mg) : ∃ t, mg "DEEPEST" = some (.int 4 t) := let ⟨_, X, G, _⟩ := T.h; He.int_ok X G (T.fa 89 rfl)
theorem g_FORMS (T : Top w K mg) : mg "FORMS" = some (.ref (He.ga K "FORMS")) := let ⟨_, X, G, _⟩ := T.h; He.glo_ok X G (T.fa 90 rfl)
theorem i_MOST_steps (T : Top w K mg) : ∃ t, mg "MOST_steps" = some (.int 16 t) := let ⟨_, X, G, _⟩ := T.h; He.int_ok X G (T.fa 91 rfl)
theorem i_FIGURES (T : Top w K mg) : ∃ t, mg "FIGURES" = some (.str "0123456789" t) := let ⟨_, X, G, _⟩ := T.h; He.str_ok X G (T.fa 92 rfl)
theorem k_Change (T : Top w K mg) : Cls K (He.ga K "Change") := He.cls_ok (T.fa 93 rfl)
theorem mk_Change (T : Top w K mg) : Mk K (He.ga K "Change") (He.ma K (He.ga K "Change") "__init__") := He.mkr_ok (T.fa 94 rfl)
theorem me_Change_init (T : Top w K mg) : Meth K (He.ga K "Change") "__init__" (He.ma K (He.ga K "Change") "__init__") := He.meth_ok (T.fa 95 rfl)
theorem me_Change_settings (T : Top w K mg) : Meth K (He.ga K "Change") "settings" (He.ma K (He.ga K "Change") "settings") := He.meth_ok (T.fa 96 rfl)
theorem me_Change_eq (T : Top w K mg) : Meth K (He.ga K "Change") "__eq__" (He.ma K (He.ga K "Change") "__eq__") := He.meth_ok (T.fa 97 rfl)
theorem me_Change_add (T : Top w K mg) : Meth K (He.ga K "Change") "__add__" (He.ma K (He.ga K "Change") "__add__") := He.meth_ok (T.fa 98 rfl)
theorem me_Change_contains (T : Top w K mg) : Meth K (He.ga K "Change") "__contains__" (He.ma K (He.ga K "Change") "__contains__") := He.meth_ok (T.fa 99 rfl)
theorem me_Change_len (T : Top w K mg) : Meth K (He.ga K "Change") "__len__" (He.ma K (He.ga K "Change") "__len__") := He.meth_ok (T.fa 100 rfl)
theorem me_Change_bool (T : Top w K mg) : Meth K (He.ga K "Change") "__bool__" (He.ma K (He.ga K "Change") "__bool__") := He.meth_ok (T.fa 101 rfl)
theorem na_Change_given (T : Top w K mg) : NoAttr K (He.ga K "Change") "given" := He.noat_ok (T.fa 102 rfl)
theorem k_Surroundings (T : Top w K mg) : Cls K (He.ga K "Surroundings") := He.cls_ok (T.fa 103 rfl)
theorem mk_Surroundings (T : Top w K mg) : Mk K (He.ga K "Surroundings") (He.ma K (He.ga K "Surroundings") "__init__") := He.mkr_ok (T.fa 104 rfl)
theorem me_Surroundings_init (T : Top w K mg) : Meth K (He.ga K "Surroundings") "__init__" (He.ma K (He.ga K "Surroundings") "__init__") := He.meth_ok (T.fa 105 rfl)
theorem me_Surroundings_keys_of (T : Top w K mg) : Meth K (He.ga K "Surroundings") "keys_of" (He.ma K (He.ga K "Surroundings") "keys_of") := He.meth_ok (T.fa 106 rfl)
theorem me_Surroundings_state (T : Top w K mg) : Meth K (He.ga K "Surroundings") "state" (He.ma K (He.ga K "Surroundings") "state") := He.meth_ok (T.fa 107 rfl)
theorem me_Surroundings_getitem (T : Top w K mg) : Meth K (He.ga K "Surroundings") "__getitem__" (He.ma K (He.ga K "Surroundings") "__getitem__") := He.meth_ok (T.fa 108 rfl)
theorem me_Surroundings_setitem (T : Top w K mg) : Meth K (He.ga K "Surroundings") "__setitem__" (He.ma K (He.ga K "Surroundings") "__setitem__") := He.meth_ok (T.fa 109 rfl)
theorem me_Surroundings_iter (T : Top w K mg) : Meth K (He.ga K "Surroundings") "__iter__" (He.ma K (He.ga K "Surroundings") "__iter__") := He.meth_ok (T.fa 110 rfl)
theorem me_Surroundings_add (T : Top w K mg) : Meth K (He.ga K "Surroundings") "__add__" (He.ma K (He.ga K "Surroundings") "__add__") := He.meth_ok (T.fa 111 rfl)
theorem me_Surroundings_radd (T : Top w K mg) : Meth K (He.ga K "Surroundings") "__radd__" (He.ma K (He.ga K "Surroundings") "__radd__") := He.meth_ok (T.fa 112 rfl)
theorem me_Surroundings_iadd (T : Top w K mg) : Meth K (He.ga K "Surroundings") "__iadd__" (He.ma K (He.ga K "Surroundings") "__iadd__") := He.meth_ok (T.fa 113 rfl)
theorem me_Surroundings_eq (T : Top w K mg) : Meth K (He.ga K "Surroundings") "__eq__" (He.ma K (He.ga K "Surroundings") "__eq__") := He.meth_ok (T.fa 114 rfl)
theorem me_Surroundings_contains (T : Top w K mg) : Meth K (He.ga K "Surroundings") "__contains__" (He.ma K (He.ga K "Surroundings") "__contains__") := He.meth_ok (T.fa 115 rfl)
theorem me_Surroundings_len (T : Top w K mg) : Meth K (He.ga K "Surroundings") "__len__" (He.ma K (He.ga K "Surroundings") "__len__") := He.meth_ok (T.fa 116 rfl)
theorem na_Surroundings_now (T : Top w K mg) : NoAttr K (He.ga K "Surroundings") "now" := He.noat_ok (T.fa 117 rfl)
theorem k_Program (T : Top w K mg) : Cls K (He.ga K "Program") := He.cls_ok (T.fa 118 rfl)
theorem mk_Program (T : Top w K mg) : Mk K (He.ga K "Program") (He.ma K (He.ga K "Program") "__init__") := He.mkr_ok (T.fa 119 rfl)
theorem me_Program_init (T : Top w K mg) : Meth K (He.ga K "Program") "__init__" (He.ma K (He.ga K "Program") "__init__") := He.meth_ok (T.fa 120 rfl)
theorem me_Program_eq (T : Top w K mg) : Meth K (He.ga K "Program") "__eq__" (He.ma K (He.ga K "Program") "__eq__") := He.meth_ok (T.fa 121 rfl)
theorem me_Program_reads (T : Top w K mg) : Meth K (He.ga K "Program") "reads" (He.ma K (He.ga K "Program") "reads") := He.meth_ok (T.fa 122 rfl)
theorem me_Program_keys_of (T : Top w K mg) : Meth K (He.ga K "Program") "keys_of" (He.ma K (He.ga K "Program") "keys_of") := He.meth_ok (T.fa 123 rfl)
theorem me_Program_variables (T : Top w K mg) : Meth K (He.ga K "Program") "variables" (He.ma K (He.ga K "Program") "variables") := He.meth_ok (T.fa 124 rfl)
theorem na_Program_body (T : Top w K mg) : NoAttr K (He.ga K "Program") "body" := He.noat_ok (T.fa 125 rfl)
theorem k_Outcome (T : Top w K mg) : Cls K (He.ga K "Outcome") := He.cls_ok (T.fa 126 rfl)
theorem mk_Outcome (T : Top w K mg) : Mk K (He.ga K "Outcome") (He.ma K (He.ga K "Outcome") "__init__") := He.mkr_ok (T.fa 127 rfl)
theorem me_Outcome_init (T : Top w K mg) : Meth K (He.ga K "Outcome") "__init__" (He.ma K (He.ga K "Outcome") "__init__") := He.meth_ok (T.fa 128 rfl)
theorem na_Outcome_ended (T : Top w K mg) : NoAttr K (He.ga K "Outcome") "ended" := He.noat_ok (T.fa 129 rfl)
theorem na_Outcome_looked (T : Top w K mg) : NoAttr K (He.ga K "Outcome") "looked" := He.noat_ok (T.fa 130 rfl)
theorem na_Outcome_printed (T : Top w K mg) : NoAttr K (He.ga K "Outcome") "printed" := He.noat_ok (T.fa 131 rfl)
theorem na_Outcome_waits (T : Top w K mg) : NoAttr K (He.ga K "Outcome") "waits" := He.noat_ok (T.fa 132 rfl)
theorem na_Outcome_went (T : Top w K mg) : NoAttr K (He.ga K "Outcome") "went" := He.noat_ok (T.fa 133 rfl)
theorem k_Runner (T : Top w K mg) : Cls K (He.ga K "Runner") := He.cls_ok (T.fa 134 rfl)
theorem mk_Runner (T : Top w K mg) : Mk K (He.ga K "Runner") (He.ma K (He.ga K "Runner") "__init__") := He.mkr_ok (T.fa 135 rfl)
theorem me_Runner_init (T : Top w K mg) : Meth K (He.ga K "Runner") "__init__" (He.ma K (He.ga K "Runner") "__init__") := He.meth_ok (T.fa 136 rfl)
theorem me_Runner_wait (T : Top w K mg) : Meth K (He.ga K "Runner") "wait" (He.ma K (He.ga K "Runner") "wait") := He.meth_ok (T.fa 137 rfl)
theorem me_Runner_value_of (T : Top w K mg) : Meth K (He.ga K "Runner") "value_of" (He.ma K (He.ga K "Runner") "value_of") := He.meth_ok (T.fa 138 rfl)
theorem me_Runner_branch (T : Top w K mg) : Meth K (He.ga K "Runner") "branch" (He.ma K (He.ga K "Runner") "branch") := He.meth_ok (T.fa 139 rfl)
theorem me_Runner_statement (T : Top w K mg) : Meth K (He.ga K "Runner") "statement" (He.ma K (He.ga K "Runner") "statement") := He.meth_ok (T.fa 140 rfl)
theorem me_Runner_execute (T : Top w K mg) : Meth K (He.ga K "Runner") "execute" (He.ma K (He.ga K "Runner") "execute") := He.meth_ok (T.fa 141 rfl)
theorem na_Runner_choices (T : Top w K mg) : NoAttr K (He.ga K "Runner") "choices" := He.noat_ok (T.fa 142 rfl)
theorem na_Runner_held (T : Top w K mg) : NoAttr K (He.ga K "Runner") "held" := He.noat_ok (T.fa 143 rfl)
theorem na_Runner_outcome (T : Top w K mg) : NoAttr K (He.ga K "Runner") "outcome" := He.noat_ok (T.fa 144 rfl)
theorem na_Runner_place (T : Top w K mg) : NoAttr K (He.ga K "Runner") "place" := He.noat_ok (T.fa 145 rfl)
theorem na_Runner_plan (T : Top w K mg) : NoAttr K (He.ga K "Runner") "plan" := He.noat_ok (T.fa 146 rfl)
theorem na_Runner_stopped (T : Top w K mg) : NoAttr K (He.ga K "Runner") "stopped" := He.noat_ok (T.fa 147 rfl)
theorem k_Ground (T : Top w K mg) : Cls K (He.ga K "Ground") := He.cls_ok (T.fa 148 rfl)
theorem mk_Ground (T : Top w K mg) : Mk K (He.ga K "Ground") (He.ma K (He.ga K "Ground") "__init__") := He.mkr_ok (T.fa 149 rfl)
theorem me_Ground_init (T : Top w K mg) : Meth K (He.ga K "Ground") "__init__" (He.ma K (He.ga K "Ground") "__init__") := He.meth_ok (T.fa 150 rfl)
theorem me_Ground_frozen_at (T : Top w K mg) : Meth K (He.ga K "Ground") "frozen_at" (He.ma K (He.ga K "Ground") "frozen_at") := He.meth_ok (T.fa 151 rfl)
theorem me_Ground_padded (T : Top w K mg) : Meth K (He.ga K "Ground") "padded" (He.ma K (He.ga K "Ground") "padded") := He.meth_ok (T.fa 152 rfl)
theorem na_Ground_choices (T : Top w K mg) : NoAttr K (He.ga K "Ground") "choices" := He.noat_ok (T.fa 153 rfl)
theorem na_Ground_given (T : Top w K mg) : NoAttr K (He.ga K "Ground") "given" := He.noat_ok (T.fa 154 rfl)
theorem na_Ground_home (T : Top w K mg) : NoAttr K (He.ga K "Ground") "home" := He.noat_ok (T.fa 155 rfl)
theorem na_Ground_next_states (T : Top w K mg) : NoAttr K (He.ga K "Ground") "next_states" := He.noat_ok (T.fa 156 rfl)
theorem na_Ground_places (T : Top w K mg) : NoAttr K (He.ga K "Ground") "places" := He.noat_ok (T.fa 157 rfl)
theorem na_Ground_states (T : Top w K mg) : NoAttr K (He.ga K "Ground") "states" := He.noat_ok (T.fa 158 rfl)
theorem na_Ground_steps (T : Top w K mg) : NoAttr K (He.ga K "Ground") "steps" := He.noat_ok (T.fa 159 rfl)
theorem na_Ground_subject (T : Top w K mg) : NoAttr K (He.ga K "Ground") "subject" := He.noat_ok (T.fa 160 rfl)
theorem k_Spot (T : Top w K mg) : Cls K (He.ga K "Spot") := He.cls_ok (T.fa 161 rfl)
theorem mk_Spot (T : Top w K mg) : Mk K (He.ga K "Spot") (He.ma K (He.ga K "Spot") "__init__") := He.mkr_ok (T.fa 162 rfl)
theorem me_Spot_init (T : Top w K mg) : Meth K (He.ga K "Spot") "__init__" (He.ma K (He.ga K "Spot") "__init__") := He.meth_ok (T.fa 163 rfl)
theorem me_Spot_mark (T : Top w K mg) : Meth K (He.ga K "Spot") "mark" (He.ma K (He.ga K "Spot") "mark") := He.meth_ok (T.fa 164 rfl)
theorem na_Spot_held (T : Top w K mg) : NoAttr K (He.ga K "Spot") "held" := He.noat_ok (T.fa 165 rfl)
theorem na_Spot_here (T : Top w K mg) : NoAttr K (He.ga K "Spot") "here" := He.noat_ok (T.fa 166 rfl)
theorem na_Spot_printed (T : Top w K mg) : NoAttr K (He.ga K "Spot") "printed" := He.noat_ok (T.fa 167 rfl)
theorem na_Spot_step (T : Top w K mg) : NoAttr K (He.ga K "Spot") "step" := He.noat_ok (T.fa 168 rfl)
theorem k_Desk (T : Top w K mg) : Cls K (He.ga K "Desk") := He.cls_ok (T.fa 169 rfl)
theorem mk_Desk (T : Top w K mg) : Mk K (He.ga K "Desk") (He.ma K (He.ga K "Desk") "__init__") := He.mkr_ok (T.fa 170 rfl)
theorem me_Desk_init (T : Top w K mg) : Meth K (He.ga K "Desk") "__init__" (He.ma K (He.ga K "Desk") "__init__") := He.meth_ok (T.fa 171 rfl)
theorem me_Desk_go_to (T : Top w K mg) : Meth K (He.ga K "Desk") "go_to" (He.ma K (He.ga K "Desk") "go_to") := He.meth_ok (T.fa 172 rfl)
theorem me_Desk_after (T : Top w K mg) : Meth K (He.ga K "Desk") "after" (He.ma K (He.ga K "Desk") "after") := He.meth_ok (T.fa 173 rfl)
theorem me_Desk_write_program (T : Top w K mg) : Meth K (He.ga K "Desk") "write_program" (He.ma K (He.ga K "Desk") "write_program") := He.meth_ok (T.fa 174 rfl)
theorem me_Desk_allow (T : Top w K mg) : Meth K (He.ga K "Desk") "allow" (He.ma K (He.ga K "Desk") "allow") := He.meth_ok (T.fa 175 rfl)
theorem me_Desk_forbid (T : Top w K mg) : Meth K (He.ga K "Desk") "forbid" (He.ma K (He.ga K "Desk") "forbid") := He.meth_ok (T.fa 176 rfl)
theorem me_Desk_getitem (T : Top w K mg) : Meth K (He.ga K "Desk") "__getitem__" (He.ma K (He.ga K "Desk") "__getitem__") := He.meth_ok (T.fa 177 rfl)
theorem me_Desk_setitem (T : Top w K mg) : Meth K (He.ga K "Desk") "__setitem__" (He.ma K (He.ga K "Desk") "__setitem__") := He.meth_ok (T.fa 178 rfl)
theorem me_Desk_iter (T : Top w K mg) : Meth K (He.ga K "Desk") "__iter__" (He.ma K (He.ga K "Desk") "__iter__") := He.meth_ok (T.fa 179 rfl)
theorem me_Desk_undo (T : Top w K mg) : Meth K (He.ga K "Desk") "undo" (He.ma K (He.ga K "Desk") "undo") := He.meth_ok (T.fa 180 rfl)
theorem me_Desk_steady (T : Top w K mg) : Meth K (He.ga K "Desk") "steady" (He.ma K (He.ga K "Desk") "steady") := He.meth_ok (T.fa 181 rfl)
theorem me_Desk_answers (T : Top w K mg) : Meth K (He.ga K "Desk") "answers" (He.ma K (He.ga K "Desk") "answers") := He.meth_ok (T.fa 182 rfl)
theorem me_Desk_clash (T : Top w K mg) : Meth K (He.ga K "Desk") "clash" (He.ma K (He.ga K "Desk") "clash") := He.meth_ok (T.fa 183 rfl)
theorem me_Desk_trial (T : Top w K mg) : Meth K (He.ga K "Desk") "trial" (He.ma K (He.ga K "Desk") "trial") := He.meth_ok (T.fa 184 rfl)
theorem na_Desk_kept (T : Top w K mg) : NoAttr K (He.ga K "Desk") "kept" := He.noat_ok (T.fa 185 rfl)
theorem na_Desk_known (T : Top w K mg) : NoAttr K (He.ga K "Desk") "known" := He.noat_ok (T.fa 186 rfl)
theorem na_Desk_past (T : Top w K mg) : NoAttr K (He.ga K "Desk") "past" := He.noat_ok (T.fa 187 rfl)
theorem na_Desk_runs (T : Top w K mg) : NoAttr K (He.ga K "Desk") "runs" := He.noat_ok (T.fa 188 rfl)
theorem k_Watch (T : Top w K mg) : Cls K (He.ga K "Watch") := He.cls_ok (T.fa 189 rfl)
theorem mk_Watch (T : Top w K mg) : Mk K (He.ga K "Watch") (He.ma K (He.ga K "Watch") "__init__") := He.mkr_ok (T.fa 190 rfl)
theorem me_Watch_init (T : Top w K mg) : Meth K (He.ga K "Watch") "__init__" (He.ma K (He.ga K "Watch") "__init__") := He.meth_ok (T.fa 191 rfl)
theorem me_Watch_mark (T : Top w K mg) : Meth K (He.ga K "Watch") "mark" (He.ma K (He.ga K "Watch") "mark") := He.meth_ok (T.fa 192 rfl)
theorem na_Watch_met (T : Top w K mg) : NoAttr K (He.ga K "Watch") "met" := He.noat_ok (T.fa 193 rfl)
theorem na_Watch_read (T : Top w K mg) : NoAttr K (He.ga K "Watch") "read" := He.noat_ok (T.fa 194 rfl)
theorem na_Watch_schedule (T : Top w K mg) : NoAttr K (He.ga K "Watch") "schedule" := He.noat_ok (T.fa 195 rfl)
theorem na_Watch_spot (T : Top w K mg) : NoAttr K (He.ga K "Watch") "spot" := He.noat_ok (T.fa 196 rfl)
theorem xc_MomentError (T : Top w K mg) : PySem.W.excIn K (He.ga K "MomentError") He.veBase "ValueError.__new__" = true ∧ PySem.W.keepIn K (.ref (He.ga K "MomentError")) = true ∧ PySem.W.subIn K (.ref (He.ga K "MomentError")) (.type "BaseException") = some true ∧ PySem.W.typeIn K (.ref (He.ga K "MomentError")) = some (.type "type") := He.exc_ok (T.fa 197 rfl)
theorem xc_BadValues (T : Top w K mg) : PySem.W.excIn K (He.ga K "BadValues") He.veBase "ValueError.__new__" = true ∧ PySem.W.keepIn K (.ref (He.ga K "BadValues")) = true ∧ PySem.W.subIn K (.ref (He.ga K "BadValues")) (.type "BaseException") = some true ∧ PySem.W.typeIn K (.ref (He.ga K "BadValues")) = some (.type "type") := He.exc_ok (T.fa 198 rfl)
theorem xc_TooLong (T : Top w K mg) : PySem.W.excIn K (He.ga K "TooLong") He.veBase "ValueError.__new__" = true ∧ PySem.W.keepIn K (.ref (He.ga K "TooLong")) = true ∧ PySem.W.subIn K (.ref (He.ga K "TooLong")) (.type "BaseException") = some true ∧ PySem.W.typeIn K (.ref (He.ga K "TooLong")) = some (.type "type") := He.exc_ok (T.fa 199 rfl)
theorem xc_TooDeep (T : Top w K mg) : PySem.W.excIn K (He.ga K "TooDeep") He.veBase "ValueError.__new__" = true ∧ PySem.W.keepIn K (.ref (He.ga K "TooDeep")) = true ∧ PySem.W.subIn K (.ref (He.ga K "TooDeep")) (.type "BaseException") = some true ∧ PySem.W.typeIn K (.ref (He.ga K "TooDeep")) = some (.type "type") := He.exc_ok (T.fa 200 rfl)
theorem xc_TooMany (T : Top w K mg) : PySem.W.excIn K (He.ga K "TooMany") He.veBase "ValueError.__new__" = true ∧ PySem.W.keepIn K (.ref (He.ga K "TooMany")) = true ∧ PySem.W.subIn K (.ref (He.ga K "TooMany")) (.type "BaseException") = some true ∧ PySem.W.typeIn K (.ref (He.ga K "TooMany")) = some (.type "type") := He.exc_ok (T.fa 201 rfl)
theorem xc_NoRead (T : Top w K mg) : PySem.W.excIn K (He.ga K "NoRead") He.veBase "ValueError.__new__" = true ∧ PySem.W.keepIn K (.ref (He.ga K "NoRead")) = true ∧ PySem.W.subIn K (.ref (He.ga K "NoRead")) (.type "BaseException") = some true ∧ PySem.W.typeIn K (.ref (He.ga K "NoRead")) = some (.type "type") := He.exc_ok (T.fa 202 rfl)
theorem xc_NothingToUndo (T : Top w K mg) : PySem.W.excIn K (He.ga K "NothingToUndo") He.veBase "ValueError.__new__" = true ∧ PySem.W.keepIn K (.ref (He.ga K "NothingToUndo")) = true ∧ PySem.W.subIn K (.ref (He.ga K "NothingToUndo")) (.type "BaseException") = some true ∧ PySem.W.typeIn K (.ref (He.ga K "NothingToUndo")) = some (.type "type") := He.exc_ok (T.fa 203 rfl)
theorem me_BadValue_init (T : Top w K mg) : Meth K (He.ga K "BadValue") "__init__" (He.ma K (He.ga K "BadValue") "__init__") := He.meth_ok (T.fa 204 rfl)
theorem na_BadValue_value (T : Top w K mg) : NoAttr K (He.ga K "BadValue") "value" := He.noat_ok (T.fa 205 rfl)
theorem me_NoKey_init (T : Top w K mg) : Meth K (He.ga K "NoKey") "__init__" (He.ma K (He.ga K "NoKey") "__init__") := He.meth_ok (T.fa 206 rfl)
theorem na_NoKey_key (T : Top w K mg) : NoAttr K (He.ga K "NoKey") "key" := He.noat_ok (T.fa 207 rfl)
theorem me_BadStatement_init (T : Top w K mg) : Meth K (He.ga K "BadStatement") "__init__" (He.ma K (He.ga K "BadStatement") "__init__") := He.meth_ok (T.fa 208 rfl)
theorem na_BadStatement_path (T : Top w K mg) : NoAttr K (He.ga K "BadStatement") "path" := He.noat_ok (T.fa 209 rfl)
theorem me_BadSchedule_init (T : Top w K mg) : Meth K (He.ga K "BadSchedule") "__init__" (He.ma K (He.ga K "BadSchedule") "__init__") := He.meth_ok (T.fa 210 rfl)
theorem na_BadSchedule_item (T : Top w K mg) : NoAttr K (He.ga K "BadSchedule") "item" := He.noat_ok (T.fa 211 rfl)
theorem me_BadText_init (T : Top w K mg) : Meth K (He.ga K "BadText") "__init__" (He.ma K (He.ga K "BadText") "__init__") := He.meth_ok (T.fa 212 rfl)
theorem na_BadText_line (T : Top w K mg) : NoAttr K (He.ga K "BadText") "line" := He.noat_ok (T.fa 213 rfl)
theorem me_NoChange_init (T : Top w K mg) : Meth K (He.ga K "NoChange") "__init__" (He.ma K (He.ga K "NoChange") "__init__") := He.meth_ok (T.fa 214 rfl)
theorem na_NoChange_number (T : Top w K mg) : NoAttr K (He.ga K "NoChange") "number" := He.noat_ok (T.fa 215 rfl)
theorem xm_MomentError_MomentError (T : Top w K mg) : PySem.W.exmOne K (.ref (He.ga K "MomentError")) (.ref (He.ga K "MomentError")) = some true := He.exm_ok (T.fa 216 rfl)
theorem xm_BadValues_MomentError (T : Top w K mg) : PySem.W.exmOne K (.ref (He.ga K "BadValues")) (.ref (He.ga K "MomentError")) = some true := He.exm_ok (T.fa 217 rfl)
theorem xm_TooLong_MomentError (T : Top w K mg) : PySem.W.exmOne K (.ref (He.ga K "TooLong")) (.ref (He.ga K "MomentError")) = some true := He.exm_ok (T.fa 218 rfl)
theorem xm_TooDeep_MomentError (T : Top w K mg) : PySem.W.exmOne K (.ref (He.ga K "TooDeep")) (.ref (He.ga K "MomentError")) = some true := He.exm_ok (T.fa 219 rfl)
theorem xm_TooMany_MomentError (T : Top w K mg) : PySem.W.exmOne K (.ref (He.ga K "TooMany")) (.ref (He.ga K "MomentError")) = some true := He.exm_ok (T.fa 220 rfl)
theorem xm_NoRead_MomentError (T : Top w K mg) : PySem.W.exmOne K (.ref (He.ga K "NoRead")) (.ref (He.ga K "MomentError")) = some true := He.exm_ok (T.fa 221 rfl)
theorem xm_NothingToUndo_MomentError (T : Top w K mg) : PySem.W.exmOne K (.ref (He.ga K "NothingToUndo")) (.ref (He.ga K "MomentError")) = some true := He.exm_ok (T.fa 222 rfl)
theorem xm_BadValue_MomentError (T : Top w K mg) : PySem.W.exmOne K (.ref (He.ga K "BadValue")) (.ref (He.ga K "MomentError")) = some true := He.exm_ok (T.fa 223 rfl)
theorem xm_NoKey_MomentError (T : Top w K mg) : PySem.W.exmOne K (.ref (He.ga K "NoKey")) (.ref (He.ga K "MomentError")) = some true := He.exm_ok (T.fa 224 rfl)
theorem xm_BadStatement_MomentError (T : Top w K mg) : PySem.W.exmOne K (.ref (He.ga K "BadStatement")) (.ref (He.ga K "MomentError")) = some true := He.exm_ok (T.fa 225 rfl)
theorem xm_BadSchedule_MomentError (T : Top w K mg) : PySem.W.exmOne K (.ref (He.ga K "BadSchedule")) (.ref (He.ga K "MomentError")) = some true := He.exm_ok (T.fa 226 rfl)
theorem xm_BadText_MomentError (T : Top w K mg) : PySem.W.exmOne K (.ref (He.ga K "BadText")) (.ref (He.ga K "MomentError")) = some true := He.exm_ok (T.fa 227 rfl)
theorem xm_NoChange_MomentError (T : Top w K mg) : PySem.W.exmOne K (.ref (He.ga K "NoChange")) (.ref (He.ga K "MomentError")) = some true := He.exm_ok (T.fa 228 rfl)
theorem f_BadValue_init (T : Top w K mg) : ∃ fd, FunD K "__init__" "BadValue.__init__" (defArgs s_BadValue_init) (defBody s_BadValue_init) (defScope s_BadValue_init) [] [] (He.ma K (He.ga K "BadValue") "__init__") fd := T.fd 0 (d := d_BadValue_init) rfl
theorem f_NoKey_init (T : Top w K mg) : ∃ fd, FunD K "__init__" "NoKey.__init__" (defArgs s_NoKey_init) (defBody s_NoKey_init) (defScope s_NoKey_init) [] [] (He.ma K (He.ga K "NoKey") "__init__") fd := T.fd 1 (d := d_NoKey_init) rfl
theorem f_BadStatement_init (T : Top w K mg) : ∃ fd, FunD K "__init__" "BadStatement.__init__" (defArgs s_BadStatement_init) (defBody s_BadStatement_init) (defScope s_BadStatement_init) [] [] (He.ma K (He.ga K "BadStatement") "__init__") fd := T.fd 2 (d := d_BadStatement_init) rfl
theorem f_BadSchedule_init (T : Top w K mg) : ∃ fd, FunD K "__init__" "BadSchedule.__init__" (defArgs s_BadSchedule_init) (defBody s_BadSchedule_init) (defScope s_BadSchedule_init) [] [] (He.ma K (He.ga K "BadSchedule") "__init__") fd := T.fd 3 (d := d_BadSchedule_init) rfl
theorem f_BadText_init (T : Top w K mg) : ∃ fd, FunD K "__init__" "BadText.__init__" (defArgs s_BadText_init) (defBody s_BadText_init) (defScope s_BadText_init) [] [] (He.ma K (He.ga K "BadText") "__init__") fd := T.fd 4 (d := d_BadText_init) rfl
theorem f_NoChange_init (T : Top w K mg) : ∃ fd, FunD K "__init__" "NoChange.__init__" (defArgs s_NoChange_init) (defBody s_NoChange_init) (defScope s_NoChange_init) [] [] (He.ma K (He.ga K "NoChange") "__init__") fd := T.fd 5 (d := d_NoChange_init) rfl
theorem f_is_word (T : Top w K mg) : ∃ fd, FunD K "is_word" "is_word" (defArgs s_is_word) (defBody s_is_word) (defScope s_is_word) [] [] (He.ga K "is_word") fd := T.fd 6 (d := d_is_word) rfl
theorem f_is_value (T : Top w K mg) : ∃ fd, FunD K "is_value" "is_value" (defArgs s_is_value) (defBody s_is_value) (defScope s_is_value) [] [] (He.ga K "is_value") fd := T.fd 7 (d := d_is_value) rfl
theorem f_checked (T : Top w K mg) : ∃ fd, FunD K "checked" "checked" (defArgs s_checked) (defBody s_checked) (defScope s_checked) [] [] (He.ga K "checked") fd := T.fd 8 (d := d_checked) rfl
theorem f_Change_init (T : Top w K mg) : ∃ fd, FunD K "__init__" "Change.__init__" (defArgs s_Change_init) (defBody s_Change_init) (defScope s_Change_init) [] [] (He.ma K (He.ga K "Change") "__init__") fd := T.fd 9 (d := d_Change_init) rfl
theorem f_Change_settings (T : Top w K mg) : ∃ fd, FunD K "settings" "Change.settings" (defArgs s_Change_settings) (defBody s_Change_settings) (defScope s_Change_settings) [] [] (He.ma K (He.ga K "Change") "settings") fd := T.fd 10 (d := d_Change_settings) rfl
theorem f_Change_eq (T : Top w K mg) : ∃ fd, FunD K "__eq__" "Change.__eq__" (defArgs s_Change_eq) (defBody s_Change_eq) (defScope s_Change_eq) [] [] (He.ma K (He.ga K "Change") "__eq__") fd := T.fd 11 (d := d_Change_eq) rfl
theorem f_Change_add (T : Top w K mg) : ∃ fd, FunD K "__add__" "Change.__add__" (defArgs s_Change_add) (defBody s_Change_add) (defScope s_Change_add) [] [] (He.ma K (He.ga K "Change") "__add__") fd := T.fd 12 (d := d_Change_add) rfl
theorem f_Change_contains (T : Top w K mg) : ∃ fd, FunD K "__contains__" "Change.__contains__" (defArgs s_Change_contains) (defBody s_Change_contains) (defScope s_Change_contains) [] [] (He.ma K (He.ga K "Change") "__contains__") fd := T.fd 13 (d := d_Change_contains) rfl
theorem f_Change_len (T : Top w K mg) : ∃ fd, FunD K "__len__" "Change.__len__" (defArgs s_Change_len) (defBody s_Change_len) (defScope s_Change_len) [] [] (He.ma K (He.ga K "Change") "__len__") fd := T.fd 14 (d := d_Change_len) rfl
theorem f_Change_bool (T : Top w K mg) : ∃ fd, FunD K "__bool__" "Change.__bool__" (defArgs s_Change_bool) (defBody s_Change_bool) (defScope s_Change_bool) [] [] (He.ma K (He.ga K "Change") "__bool__") fd := T.fd 15 (d := d_Change_bool) rfl
theorem f_Surroundings_init (T : Top w K mg) : ∃ fd, FunD K "__init__" "Surroundings.__init__" (defArgs s_Surroundings_init) (defBody s_Surroundings_init) (defScope s_Surroundings_init) [] [] (He.ma K (He.ga K "Surroundings") "__init__") fd := T.fd 16 (d := d_Surroundings_init) rfl
theorem f_Surroundings_keys_of (T : Top w K mg) : ∃ fd, FunD K "keys_of" "Surroundings.keys_of" (defArgs s_Surroundings_keys_of) (defBody s_Surroundings_keys_of) (defScope s_Surroundings_keys_of) [] [] (He.ma K (He.ga K "Surroundings") "keys_of") fd := T.fd 17 (d := d_Surroundings_keys_of) rfl
theorem f_Surroundings_state (T : Top w K mg) : ∃ fd, FunD K "state" "Surroundings.state" (defArgs s_Surroundings_state) (defBody s_Surroundings_state) (defScope s_Surroundings_state) [] [] (He.ma K (He.ga K "Surroundings") "state") fd := T.fd 18 (d := d_Surroundings_state) rfl
theorem f_Surroundings_getitem (T : Top w K mg) : ∃ fd, FunD K "__getitem__" "Surroundings.__getitem__" (defArgs s_Surroundings_getitem) (defBody s_Surroundings_getitem) (defScope s_Surroundings_getitem) [] [] (He.ma K (He.ga K "Surroundings") "__getitem__") fd := T.fd 19 (d := d_Surroundings_getitem) rfl
theorem f_Surroundings_setitem (T : Top w K mg) : ∃ fd, FunD K "__setitem__" "Surroundings.__setitem__" (defArgs s_Surroundings_setitem) (defBody s_Surroundings_setitem) (defScope s_Surroundings_setitem) [] [] (He.ma K (He.ga K "Surroundings") "__setitem__") fd := T.fd 20 (d := d_Surroundings_setitem) rfl
theorem f_Surroundings_iter (T : Top w K mg) : ∃ fd, FunD K "__iter__" "Surroundings.__iter__" (defArgs s_Surroundings_iter) (defBody s_Surroundings_iter) (defScope s_Surroundings_iter) [] [] (He.ma K (He.ga K "Surroundings") "__iter__") fd := T.fd 21 (d := d_Surroundings_iter) rfl
theorem f_Surroundings_add (T : Top w K mg) : ∃ fd, FunD K "__add__" "Surroundings.__add__" (defArgs s_Surroundings_add) (defBody s_Surroundings_add) (defScope s_Surroundings_add) [] [] (He.ma K (He.ga K "Surroundings") "__add__") fd := T.fd 22 (d := d_Surroundings_add) rfl
theorem f_Surroundings_radd (T : Top w K mg) : ∃ fd, FunD K "__radd__" "Surroundings.__radd__" (defArgs s_Surroundings_radd) (defBody s_Surroundings_radd) (defScope s_Surroundings_radd) [] [] (He.ma K (He.ga K "Surroundings") "__radd__") fd := T.fd 23 (d := d_Surroundings_radd) rfl
theorem f_Surroundings_iadd (T : Top w K mg) : ∃ fd, FunD K "__iadd__" "Surroundings.__iadd__" (defArgs s_Surroundings_iadd) (defBody s_Surroundings_iadd) (defScope s_Surroundings_iadd) [] [] (He.ma K (He.ga K "Surroundings") "__iadd__") fd := T.fd 24 (d := d_Surroundings_iadd) rfl
theorem f_Surroundings_eq (T : Top w K mg) : ∃ fd, FunD K "__eq__" "Surroundings.__eq__" (defArgs s_Surroundings_eq) (defBody s_Surroundings_eq) (defScope s_Surroundings_eq) [] [] (He.ma K (He.ga K "Surroundings") "__eq__") fd := T.fd 25 (d := d_Surroundings_eq) rfl
theorem f_Surroundings_contains (T : Top w K mg) : ∃ fd, FunD K "__contains__" "Surroundings.__contains__" (defArgs s_Surroundings_contains) (defBody s_Surroundings_contains) (defScope s_Surroundings_contains) [] [] (He.ma K (He.ga K "Surroundings") "__contains__") fd := T.fd 26 (d := d_Surroundings_contains) rfl
theorem f_Surroundings_len (T : Top w K mg) : ∃ fd, FunD K "__len__" "Surroundings.__len__" (defArgs s_Surroundings_len) (defBody s_Surroundings_len) (defScope s_Surroundings_len) [] [] (He.ma K (He.ga K "Surroundings") "__len__") fd := T.fd 27 (d := d_Surroundings_len) rfl
theorem f_changed (T : Top w K mg) : ∃ fd, FunD K "changed" "changed" (defArgs s_changed) (defBody s_changed) (defScope s_changed) [] [] (He.ga K "changed") fd := T.fd 28 (d := d_changed) rfl
theorem f_is_item (T : Top w K mg) : ∃ fd, FunD K "is_item" "is_item" (defArgs s_is_item) (defBody s_is_item) (defScope s_is_item) [] [] (He.ga K "is_item") fd := T.fd 29 (d := d_is_item) rfl
theorem f_is_statement (T : Top w K mg) : ∃ fd, FunD K "is_statement" "is_statement" (defArgs s_is_statement) (defBody s_is_statement) (defScope s_is_statement) [] [] (He.ga K "is_statement") fd := T.fd 30 (d := d_is_statement) rfl
theorem f_bodies_of (T : Top w K mg) : ∃ fd, FunD K "bodies_of" "bodies_of" (defArgs s_bodies_of) (defBody s_bodies_of) (defScope s_bodies_of) [] [] (He.ga K "bodies_of") fd := T.fd 31 (d := d_bodies_of) rfl
theorem f_check_body (T : Top w K mg) : ∃ fd, FunD K "check_body" "check_body" (defArgs s_check_body) (defBody s_check_body) (defScope s_check_body) [] [] (He.ga K "check_body") fd := T.fd 32 (d := d_check_body) rfl
theorem f_as_tuples (T : Top w K mg) : ∃ fd, FunD K "as_tuples" "as_tuples" (defArgs s_as_tuples) (defBody s_as_tuples) (defScope s_as_tuples) [] [] (He.ga K "as_tuples") fd := T.fd 33 (d := d_as_tuples) rfl
theorem f_all_statements (T : Top w K mg) : ∃ fd, FunD K "all_statements" "all_statements" (defArgs s_all_statements) (defBody s_all_statements) (defScope s_all_statements) [] [] (He.ga K "all_statements") fd := T.fd 34 (d := d_all_statements) rfl
theorem f_depth_of (T : Top w K mg) : ∃ fd, FunD K "depth_of" "depth_of" (defArgs s_depth_of) (defBody s_depth_of) (defScope s_depth_of) [] [] (He.ga K "depth_of") fd := T.fd 35 (d := d_depth_of) rfl
theorem f_check_size (T : Top w K mg) : ∃ fd, FunD K "check_size" "check_size" (defArgs s_check_size) (defBody s_check_size) (defScope s_check_size) [] [] (He.ga K "check_size") fd := T.fd 36 (d := d_check_size) rfl
theorem f_names_in (T : Top w K mg) : ∃ fd, FunD K "names_in" "names_in" (defArgs s_names_in) (defBody s_names_in) (defScope s_names_in) [] [] (He.ga K "names_in") fd := T.fd 37 (d := d_names_in) rfl
theorem f_Program_init (T : Top w K mg) : ∃ fd, FunD K "__init__" "Program.__init__" (defArgs s_Program_init) (defBody s_Program_init) (defScope s_Program_init) [] [] (He.ma K (He.ga K "Program") "__init__") fd := T.fd 38 (d := d_Program_init) rfl
theorem f_Program_eq (T : Top w K mg) : ∃ fd, FunD K "__eq__" "Program.__eq__" (defArgs s_Program_eq) (defBody s_Program_eq) (defScope s_Program_eq) [] [] (He.ma K (He.ga K "Program") "__eq__") fd := T.fd 39 (d := d_Program_eq) rfl
theorem f_Program_reads (T : Top w K mg) : ∃ fd, FunD K "reads" "Program.reads" (defArgs s_Program_reads) (defBody s_Program_reads) (defScope s_Program_reads) [] [] (He.ma K (He.ga K "Program") "reads") fd := T.fd 40 (d := d_Program_reads) rfl
theorem f_Program_keys_of (T : Top w K mg) : ∃ fd, FunD K "keys_of" "Program.keys_of" (defArgs s_Program_keys_of) (defBody s_Program_keys_of) (defScope s_Program_keys_of) [] [] (He.ma K (He.ga K "Program") "keys_of") fd := T.fd 41 (d := d_Program_keys_of) rfl
theorem f_Program_variables (T : Top w K mg) : ∃ fd, FunD K "variables" "Program.variables" (defArgs s_Program_variables) (defBody s_Program_variables) (defScope s_Program_variables) [] [] (He.ma K (He.ga K "Program") "variables") fd := T.fd 42 (d := d_Program_variables) rfl
theorem f_Outcome_init (T : Top w K mg) : ∃ fd, FunD K "__init__" "Outcome.__init__" (defArgs s_Outcome_init) (defBody s_Outcome_init) (defScope s_Outcome_init) [] [] (He.ma K (He.ga K "Outcome") "__init__") fd := T.fd 43 (d := d_Outcome_init) rfl
theorem f_check_keys (T : Top w K mg) : ∃ fd, FunD K "check_keys" "check_keys" (defArgs s_check_keys) (defBody s_check_keys) (defScope s_check_keys) [] [] (He.ga K "check_keys") fd := T.fd 44 (d := d_check_keys) rfl
theorem f_check_schedule (T : Top w K mg) : ∃ fd, FunD K "check_schedule" "check_schedule" (defArgs s_check_schedule) (defBody s_check_schedule) (defScope s_check_schedule) [] [] (He.ga K "check_schedule") fd := T.fd 45 (d := d_check_schedule) rfl
theorem f_Runner_init (T : Top w K mg) : ∃ fd, FunD K "__init__" "Runner.__init__" (defArgs s_Runner_init) (defBody s_Runner_init) (defScope s_Runner_init) [] [] (He.ma K (He.ga K "Runner") "__init__") fd := T.fd 46 (d := d_Runner_init) rfl
theorem f_Runner_wait (T : Top w K mg) : ∃ fd, FunD K "wait" "Runner.wait" (defArgs s_Runner_wait) (defBody s_Runner_wait) (defScope s_Runner_wait) [] [] (He.ma K (He.ga K "Runner") "wait") fd := T.fd 47 (d := d_Runner_wait) rfl
theorem f_Runner_value_of (T : Top w K mg) : ∃ fd, FunD K "value_of" "Runner.value_of" (defArgs s_Runner_value_of) (defBody s_Runner_value_of) (defScope s_Runner_value_of) [] [] (He.ma K (He.ga K "Runner") "value_of") fd := T.fd 48 (d := d_Runner_value_of) rfl
theorem f_Runner_branch (T : Top w K mg) : ∃ fd, FunD K "branch" "Runner.branch" (defArgs s_Runner_branch) (defBody s_Runner_branch) (defScope s_Runner_branch) [] [] (He.ma K (He.ga K "Runner") "branch") fd := T.fd 49 (d := d_Runner_branch) rfl
theorem f_Runner_statement (T : Top w K mg) : ∃ fd, FunD K "statement" "Runner.statement" (defArgs s_Runner_statement) (defBody s_Runner_statement) (defScope s_Runner_statement) [] [] (He.ma K (He.ga K "Runner") "statement") fd := T.fd 50 (d := d_Runner_statement) rfl
theorem f_Runner_execute (T : Top w K mg) : ∃ fd, FunD K "execute" "Runner.execute" (defArgs s_Runner_execute) (defBody s_Runner_execute) (defScope s_Runner_execute) [] [] (He.ma K (He.ga K "Runner") "execute") fd := T.fd 51 (d := d_Runner_execute) rfl
theorem f_run (T : Top w K mg) : ∃ fd, FunD K "run" "run" (defArgs s_run) (defBody s_run) (defScope s_run) [.ref (He.dflAt ("run", none) 0 K), .ref (He.dflAt ("run", none) 1 K)] [] (He.ga K "run") fd := T.fd 52 (d := d_run) rfl
theorem f_with_state (T : Top w K mg) : ∃ fd, FunD K "with_state" "with_state" (defArgs s_with_state) (defBody s_with_state) (defScope s_with_state) [] [] (He.ga K "with_state") fd := T.fd 53 (d := d_with_state) rfl
theorem f_states_from (T : Top w K mg) : ∃ fd, FunD K "states_from" "states_from" (defArgs s_states_from) (defBody s_states_from) (defScope s_states_from) [] [] (He.ga K "states_from") fd := T.fd 54 (d := d_states_from) rfl
theorem f_Ground_init (T : Top w K mg) : ∃ fd, FunD K "__init__" "Ground.__init__" (defArgs s_Ground_init) (defBody s_Ground_init) (defScope s_Ground_init) [] [] (He.ma K (He.ga K "Ground") "__init__") fd := T.fd 55 (d := d_Ground_init) rfl
theorem f_Ground_padded (T : Top w K mg) : ∃ fd, FunD K "padded" "Ground.padded" (defArgs s_Ground_padded) (defBody s_Ground_padded) (defScope s_Ground_padded) [] [] (He.ma K (He.ga K "Ground") "padded") fd := T.fd 56 (d := d_Ground_padded) rfl
theorem f_steps_of (T : Top w K mg) : ∃ fd, FunD K "steps_of" "steps_of" (defArgs s_steps_of) (defBody s_steps_of) (defScope s_steps_of) [] [] (He.ga K "steps_of") fd := T.fd 57 (d := d_steps_of) rfl
theorem f_Spot_init (T : Top w K mg) : ∃ fd, FunD K "__init__" "Spot.__init__" (defArgs s_Spot_init) (defBody s_Spot_init) (defScope s_Spot_init) [] [] (He.ma K (He.ga K "Spot") "__init__") fd := T.fd 58 (d := d_Spot_init) rfl
theorem f_Spot_mark (T : Top w K mg) : ∃ fd, FunD K "mark" "Spot.mark" (defArgs s_Spot_mark) (defBody s_Spot_mark) (defScope s_Spot_mark) [] [] (He.ma K (He.ga K "Spot") "mark") fd := T.fd 59 (d := d_Spot_mark) rfl
theorem f_value_in (T : Top w K mg) : ∃ fd, FunD K "value_in" "value_in" (defArgs s_value_in) (defBody s_value_in) (defScope s_value_in) [] [] (He.ga K "value_in") fd := T.fd 60 (d := d_value_in) rfl
theorem f_with_value (T : Top w K mg) : ∃ fd, FunD K "with_value" "with_value" (defArgs s_with_value) (defBody s_with_value) (defScope s_with_value) [] [] (He.ga K "with_value") fd := T.fd 61 (d := d_with_value) rfl
theorem f_moved (T : Top w K mg) : ∃ fd, FunD K "moved" "moved" (defArgs s_moved) (defBody s_moved) (defScope s_moved) [] [] (He.ga K "moved") fd := T.fd 62 (d := d_moved) rfl
theorem f_is_over (T : Top w K mg) : ∃ fd, FunD K "is_over" "is_over" (defArgs s_is_over) (defBody s_is_over) (defScope s_is_over) [] [] (He.ga K "is_over") fd := T.fd 63 (d := d_is_over) rfl
theorem f_at_wait (T : Top w K mg) : ∃ fd, FunD K "at_wait" "at_wait" (defArgs s_at_wait) (defBody s_at_wait) (defScope s_at_wait) [] [] (He.ga K "at_wait") fd := T.fd 64 (d := d_at_wait) rfl
theorem f_reachable (T : Top w K mg) : ∃ fd, FunD K "reachable" "reachable" (defArgs s_reachable) (defBody s_reachable) (defScope s_reachable) [] [] (He.ga K "reachable") fd := T.fd 65 (d := d_reachable) rfl
theorem f_Desk_init (T : Top w K mg) : ∃ fd, FunD K "__init__" "Desk.__init__" (defArgs s_Desk_init) (defBody s_Desk_init) (defScope s_Desk_init) [] [] (He.ma K (He.ga K "Desk") "__init__") fd := T.fd 66 (d := d_Desk_init) rfl
theorem f_Desk_go_to (T : Top w K mg) : ∃ fd, FunD K "go_to" "Desk.go_to" (defArgs s_Desk_go_to) (defBody s_Desk_go_to) (defScope s_Desk_go_to) [] [] (He.ma K (He.ga K "Desk") "go_to") fd := T.fd 67 (d := d_Desk_go_to) rfl
theorem f_Desk_after (T : Top w K mg) : ∃ fd, FunD K "after" "Desk.after" (defArgs s_Desk_after) (defBody s_Desk_after) (defScope s_Desk_after) [] [] (He.ma K (He.ga K "Desk") "after") fd := T.fd 68 (d := d_Desk_after) rfl
theorem f_Desk_allow (T : Top w K mg) : ∃ fd, FunD K "allow" "Desk.allow" (defArgs s_Desk_allow) (defBody s_Desk_allow) (defScope s_Desk_allow) [] [] (He.ma K (He.ga K "Desk") "allow") fd := T.fd 69 (d := d_Desk_allow) rfl
theorem f_Desk_forbid (T : Top w K mg) : ∃ fd, FunD K "forbid" "Desk.forbid" (defArgs s_Desk_forbid) (defBody s_Desk_forbid) (defScope s_Desk_forbid) [] [] (He.ma K (He.ga K "Desk") "forbid") fd := T.fd 70 (d := d_Desk_forbid) rfl
theorem f_Desk_getitem (T : Top w K mg) : ∃ fd, FunD K "__getitem__" "Desk.__getitem__" (defArgs s_Desk_getitem) (defBody s_Desk_getitem) (defScope s_Desk_getitem) [] [] (He.ma K (He.ga K "Desk") "__getitem__") fd := T.fd 71 (d := d_Desk_getitem) rfl
theorem f_Desk_setitem (T : Top w K mg) : ∃ fd, FunD K "__setitem__" "Desk.__setitem__" (defArgs s_Desk_setitem) (defBody s_Desk_setitem) (defScope s_Desk_setitem) [] [] (He.ma K (He.ga K "Desk") "__setitem__") fd := T.fd 72 (d := d_Desk_setitem) rfl
theorem f_Desk_iter (T : Top w K mg) : ∃ fd, FunD K "__iter__" "Desk.__iter__" (defArgs s_Desk_iter) (defBody s_Desk_iter) (defScope s_Desk_iter) [] [] (He.ma K (He.ga K "Desk") "__iter__") fd := T.fd 73 (d := d_Desk_iter) rfl
theorem f_Desk_undo (T : Top w K mg) : ∃ fd, FunD K "undo" "Desk.undo" (defArgs s_Desk_undo) (defBody s_Desk_undo) (defScope s_Desk_undo) [] [] (He.ma K (He.ga K "Desk") "undo") fd := T.fd 74 (d := d_Desk_undo) rfl
theorem f_Watch_init (T : Top w K mg) : ∃ fd, FunD K "__init__" "Watch.__init__" (defArgs s_Watch_init) (defBody s_Watch_init) (defScope s_Watch_init) [] [] (He.ma K (He.ga K "Watch") "__init__") fd := T.fd 75 (d := d_Watch_init) rfl
theorem f_Watch_mark (T : Top w K mg) : ∃ fd, FunD K "mark" "Watch.mark" (defArgs s_Watch_mark) (defBody s_Watch_mark) (defScope s_Watch_mark) [] [] (He.ma K (He.ga K "Watch") "mark") fd := T.fd 76 (d := d_Watch_mark) rfl
theorem f_seen_value (T : Top w K mg) : ∃ fd, FunD K "seen_value" "seen_value" (defArgs s_seen_value) (defBody s_seen_value) (defScope s_seen_value) [] [] (He.ga K "seen_value") fd := T.fd 77 (d := d_seen_value) rfl
theorem f_begin_watch (T : Top w K mg) : ∃ fd, FunD K "begin_watch" "begin_watch" (defArgs s_begin_watch) (defBody s_begin_watch) (defScope s_begin_watch) [] [] (He.ga K "begin_watch") fd := T.fd 78 (d := d_begin_watch) rfl
theorem f_torn_here (T : Top w K mg) : ∃ fd, FunD K "torn_here" "torn_here" (defArgs s_torn_here) (defBody s_torn_here) (defScope s_torn_here) [] [] (He.ga K "torn_here") fd := T.fd 79 (d := d_torn_here) rfl
theorem f_with_state_met (T : Top w K mg) : ∃ fd, FunD K "with_state_met" "with_state_met" (defArgs s_with_state_met) (defBody s_with_state_met) (defScope s_with_state_met) [] [] (He.ga K "with_state_met") fd := T.fd 80 (d := d_with_state_met) rfl
theorem f_followers (T : Top w K mg) : ∃ fd, FunD K "followers" "followers" (defArgs s_followers) (defBody s_followers) (defScope s_followers) [] [] (He.ga K "followers") fd := T.fd 81 (d := d_followers) rfl
theorem f_is_new (T : Top w K mg) : ∃ fd, FunD K "is_new" "is_new" (defArgs s_is_new) (defBody s_is_new) (defScope s_is_new) [] [] (He.ga K "is_new") fd := T.fd 82 (d := d_is_new) rfl
theorem f_torn_schedules (T : Top w K mg) : ∃ fd, FunD K "torn_schedules" "torn_schedules" (defArgs s_torn_schedules) (defBody s_torn_schedules) (defScope s_torn_schedules) [] [] (He.ga K "torn_schedules") fd := T.fd 83 (d := d_torn_schedules) rfl
theorem f_torn_by (T : Top w K mg) : ∃ fd, FunD K "torn_by" "torn_by" (defArgs s_torn_by) (defBody s_torn_by) (defScope s_torn_by) [] [] (He.ga K "torn_by") fd := T.fd 84 (d := d_torn_by) rfl
theorem f_number_of (T : Top w K mg) : ∃ fd, FunD K "number_of" "number_of" (defArgs s_number_of) (defBody s_number_of) (defScope s_number_of) [] [] (He.ga K "number_of") fd := T.fd 85 (d := d_number_of) rfl
theorem f_item_of (T : Top w K mg) : ∃ fd, FunD K "item_of" "item_of" (defArgs s_item_of) (defBody s_item_of) (defScope s_item_of) [] [] (He.ga K "item_of") fd := T.fd 86 (d := d_item_of) rfl
theorem f_plain_statement (T : Top w K mg) : ∃ fd, FunD K "plain_statement" "plain_statement" (defArgs s_plain_statement) (defBody s_plain_statement) (defScope s_plain_statement) [] [] (He.ga K "plain_statement") fd := T.fd 87 (d := d_plain_statement) rfl
theorem f_body_of (T : Top w K mg) : ∃ fd, FunD K "body_of" "body_of" (defArgs s_body_of) (defBody s_body_of) (defScope s_body_of) [] [] (He.ga K "body_of") fd := T.fd 88 (d := d_body_of) rfl
theorem f_read (T : Top w K mg) : ∃ fd, FunD K "read" "read" (defArgs s_read) (defBody s_read) (defScope s_read) [] [] (He.ga K "read") fd := T.fd 89 (d := d_read) rfl
theorem f_law_begin (T : Top w K mg) : ∃ fd, FunD K "_law_begin" "_law_begin" (defArgs s_law_begin) (defBody s_law_begin) (defScope s_law_begin) [] [] (He.ga K "_law_begin") fd := T.fd 90 (d := d_law_begin) rfl
theorem f_law_draw (T : Top w K mg) : ∃ fd, FunD K "_law_draw" "_law_draw" (defArgs s_law_draw) (defBody s_law_draw) (defScope s_law_draw) [] [] (He.ga K "_law_draw") fd := T.fd 91 (d := d_law_draw) rfl
theorem f_law_first (T : Top w K mg) : ∃ fd, FunD K "_law_first" "_law_first" (defArgs s_law_first) (defBody s_law_first) (defScope s_law_first) [] [] (He.ga K "_law_first") fd := T.fd 92 (d := d_law_first) rfl
theorem f_law_second (T : Top w K mg) : ∃ fd, FunD K "_law_second" "_law_second" (defArgs s_law_second) (defBody s_law_second) (defScope s_law_second) [] [] (He.ga K "_law_second") fd := T.fd 93 (d := d_law_second) rfl
theorem f_law_kinds (T : Top w K mg) : ∃ fd, FunD K "_law_kinds" "_law_kinds" (defArgs s_law_kinds) (defBody s_law_kinds) (defScope s_law_kinds) [] [] (He.ga K "_law_kinds") fd := T.fd 94 (d := d_law_kinds) rfl
theorem f_law (T : Top w K mg) : ∃ fd, FunD K "law" "law" (defArgs s_law) (defBody s_law) (defScope s_law) [] [] (He.ga K "law") fd := T.fd 95 (d := d_law) rfl
theorem t_FORMS (T : Top w K mg) : ∃ es m, KDict K w (He.ga K "FORMS") es m := let ⟨_, _, _, c⟩ := T.h; c.t.tab 0 (t := (fun K => He.ga K "FORMS", ["read", "set", "copy", "print", "say", "wait", "if", "same", "repeat", "stop"])) rfl
theorem Top.ex (T : Top w K mg) (i : Nat) {f : PySem.W.Frag → Bool} (h : exL[i]? = some f) : f K = true := let ⟨_, _, _, c⟩ := T.h; List.all_eq_true.mp c.more f (List.mem_of_getElem? h)
theorem v_FORMS (T : Top w K mg) : He.valsB K (He.ga K "FORMS") tab_FORMS = true := T.ex 0 rfl
theorem ins_Change (T : Top w K mg) : insB K "Change" = true := T.ex 1 rfl
theorem kit_Change_Change (T : Top w K mg) : kitC K "Change" "Change" true = true := T.ex 2 rfl
theorem kit_Change_Surroundings (T : Top w K mg) : kitC K "Change" "Surroundings" false = true := T.ex 3 rfl
theorem kit_Change_Program (T : Top w K mg) : kitC K "Change" "Program" false = true := T.ex 4 rfl
theorem ins_Surroundings (T : Top w K mg) : insB K "Surroundings" = true := T.ex 5 rfl
theorem kit_Surroundings_Change (T : Top w K mg) : kitC K "Surroundings" "Change" false = true := T.ex 6 rfl
theorem kit_Surroundings_Surroundings (T : Top w K mg) : kitC K "Surroundings" "Surroundings" true = true := T.ex 7 rfl
theorem kit_Surroundings_Program (T : Top w K mg) : kitC K "Surroundings" "Program" false = true := T.ex 8 rfl
theorem ins_Program (T : Top w K mg) : insB K "Program" = true := T.ex 9 rfl
theorem kit_Program_Change (T : Top w K mg) : kitC K "Program" "Change" false = true := T.ex 10 rfl
theorem kit_Program_Surroundings (T : Top w K mg) : kitC K "Program" "Surroundings" false = true := T.ex 11 rfl
theorem kit_Program_Program (T : Top w K mg) : kitC K "Program" "Program" true = true := T.ex 12 rfl
theorem spc_Change_eq (T : Top w K mg) : spcB K "Change" "__eq__" = true := T.ex 13 rfl
theorem spc_Change_add (T : Top w K mg) : spcB K "Change" "__add__" = true := T.ex 14 rfl
theorem spc_Change_contains (T : Top w K mg) : spcB K "Change" "__contains__" = true := T.ex 15 rfl
theorem spc_Change_len (T : Top w K mg) : spcB K "Change" "__len__" = true := T.ex 16 rfl
theorem spc_Change_bool (T : Top w K mg) : spcB K "Change" "__bool__" = true := T.ex 17 rfl
theorem spc_Surroundings_getitem (T : Top w K mg) : spcB K "Surroundings" "__getitem__" = true := T.ex 18 rfl
theorem spc_Surroundings_setitem (T : Top w K mg) : spcB K "Surroundings" "__setitem__" = true := T.ex 19 rfl
theorem spc_Surroundings_iter (T : Top w K mg) : spcB K "Surroundings" "__iter__" = true := T.ex 20 rfl
theorem spc_Surroundings_add (T : Top w K mg) : spcB K "Surroundings" "__add__" = true := T.ex 21 rfl
theorem spc_Surroundings_radd (T : Top w K mg) : spcB K "Surroundings" "__radd__" = true := T.ex 22 rfl
theorem spc_Surroundings_iadd (T : Top w K mg) : spcB K "Surroundings" "__iadd__" = true := T.ex 23 rfl
theorem spc_Surroundings_eq (T : Top w K mg) : spcB K "Surroundings" "__eq__" = true := T.ex 24 rfl
theorem spc_Surroundings_contains (T : Top w K mg) : spcB K "Surroundings" "__contains__" = true := T.ex 25 rfl
theorem spc_Surroundings_len (T : Top w K mg) : spcB K "Surroundings" "__len__" = true := T.ex 26 rfl
theorem spc_Program_eq (T : Top w K mg) : spcB K "Program" "__eq__" = true := T.ex 27 rfl
theorem spc_Desk_getitem (T : Top w K mg) : spcB K "Desk" "__getitem__" = true := T.ex 28 rfl
theorem spc_Desk_setitem (T : Top w K mg) : spcB K "Desk" "__setitem__" = true := T.ex 29 rfl
theorem spc_Desk_iter (T : Top w K mg) : spcB K "Desk" "__iter__" = true := T.ex 30 rfl
theorem oex_BadValue (T : Top w K mg) : oexB K (He.ga K "BadValue") = true := T.ex 31 rfl
theorem xf_BadValue (T : Top w K mg) : xfB K (He.ga K "BadValue") = true := T.ex 32 rfl
theorem oex_NoKey (T : Top w K mg) : oexB K (He.ga K "NoKey") = true := T.ex 33 rfl
theorem xf_NoKey (T : Top w K mg) : xfB K (He.ga K "NoKey") = true := T.ex 34 rfl
theorem oex_BadStatement (T : Top w K mg) : oexB K (He.ga K "BadStatement") = true := T.ex 35 rfl
theorem xf_BadStatement (T : Top w K mg) : xfB K (He.ga K "BadStatement") = true := T.ex 36 rfl
theorem oex_BadSchedule (T : Top w K mg) : oexB K (He.ga K "BadSchedule") = true := T.ex 37 rfl
theorem xf_BadSchedule (T : Top w K mg) : xfB K (He.ga K "BadSchedule") = true := T.ex 38 rfl
theorem oex_BadText (T : Top w K mg) : oexB K (He.ga K "BadText") = true := T.ex 39 rfl
theorem xf_BadText (T : Top w K mg) : xfB K (He.ga K "BadText") = true := T.ex 40 rfl
theorem oex_NoChange (T : Top w K mg) : oexB K (He.ga K "NoChange") = true := T.ex 41 rfl
theorem xf_NoChange (T : Top w K mg) : xfB K (He.ga K "NoChange") = true := T.ex 42 rfl
theorem emp_run_0 (T : Top w K mg) : empB K (He.dflAt ("run", none) 0 K) = true := T.ex 43 rfl
theorem emp_run_1 (T : Top w K mg) : empB K (He.dflAt ("run", none) 1 K) = true := T.ex 44 rfl
theorem ne_Change (T : Top w K mg) : neB K "Change" = true := T.ex 45 rfl
theorem ne_Surroundings (T : Top w K mg) : neB K "Surroundings" = true := T.ex 46 rfl
theorem ne_Program (T : Top w K mg) : neB K "Program" = true := T.ex 47 rfl
theorem two_Surroundings_Change (T : Top w K mg) : twoB K "Surroundings" "Change" = true := T.ex 48 rfl
theorem nsq_Surroundings (T : Top w K mg) : PySem.W.noSeq K (He.ga K "Surroundings") = true := T.ex 49 rfl
theorem kinds_all (T : Top w K mg) : kindsB K ["BadValues", "TooLong", "TooDeep", "TooMany", "NoRead", "NothingToUndo", "BadValue", "NoKey", "BadStatement", "BadSchedule", "BadText", "NoChange"] = true := T.ex 50 rfl
theorem keys_FORMS (T : Top w K mg) : keysB K (He.ga K "FORMS") ["read", "set", "copy", "print", "say", "wait", "if", "same", "repeat", "stop"] = true := T.ex 51 rfl
theorem no_loop (T : Top w K mg) : He.eqO (PySem.W.nsIn K (He.ga K "FORMS") "loop") (some none) = true := T.ex 52 rfl
end
end RM

set_option Elab.async false
set_option linter.all false
set_option maxRecDepth 100000
set_option maxHeartbeats 2000000
namespace RM
open PySem PySem.Spec PyProof.Rows L2
section
variable {P : Program} {w : World} {K : PySem.W.Frag} {mg : Str → Option Value} {base : Heap}
theorem sc_is_value : FnScope ["value"] ["value"] (defScope s_is_value) := ⟨rfl, rfl, rfl, by decide +kernel, rfl, by decide +kernel, by decide +kernel⟩
def spIsValue : Sp := fun vs H Q _ => match vs with
  | [x] => ∃ n, x = .int n ∧ Q (.bl (isValue n)) H
  | _ => False
/-- data that is no number -/
def noInt : PyData → Bool
  | .int _ => false
  | .dict _ => false
  | _ => true
def spIsValueG (K : PySem.W.Frag) : Sp := fun vs H Q E => spIsValue vs H Q E ∨ match vs with
  | [x] => ∃ d, Dp K H x d ∧ noInt d = true ∧ Q (.bl false) H
  | _ => False
theorem cg_is_value (T : Top w K mg) : Cal P w K mg base CX0 1 "is_value" (spIsValueG K) := by
  refine cal_0 (f_is_value T) (g_is_value T) sc_is_value (fun _ _ _ _ _ _ us hl => match us, hl with | [_], _ => rfl) (fun vs H Q E h => match vs, h with | [_], _ => rfl | [], .inl h => h.elim | [], .inr h => h.elim | _ :: _ :: _, .inl h => h.elim | _ :: _ :: _, .inr h => h.elim) (fun cdv A outer s H vs Q E hr h => ?_)
  match vs, h with
  | [x], h =>
  refine ⟨_, (pss_one (ps_ret (pe_and (pcb (z_isinstance T) call_isi boot_isinstance (pa_cons (pv 0) (pa_cons (pty (z_int T) boot_int) pa_nil))) (pe_and (pe_not (pcb (z_isinstance T) call_isi boot_isinstance (pa_cons (pv 0) (pa_cons (pty (z_bool T) boot_bool) pa_nil)))) (pe_one (pe_chain op_le op_le (pe_un un_neg (pglI (i_GREATEST T))) (pv 0) (pglI (i_GREATEST T)))))))), ?_⟩
  rcases h with h | ⟨d, hd, hn, q⟩
  case inr =>
    cases hd with
    | int i => cases hn
    | non => exact ⟨_, rfl, _, _, _, _, false, rfl, .ty _, .base .non, kit_ty (by decide +kernel), _, rfl, iteF q⟩
    | str z => exact ⟨_, rfl, _, _, _, _, false, rfl, .ty _, .base (.str z), kit_ty (by decide +kernel), _, rfl, iteF q⟩
    | lst h1 _ => exact ⟨_, rfl, _, _, _, _, false, rfl, .ty _, tyL h1, kit_ty (by decide +kernel), _, rfl, iteF q⟩
    | tup h1 _ => exact ⟨_, rfl, _, _, _, _, false, rfl, .ty _, tyT h1, kit_ty (by decide +kernel), _, rfl, iteF q⟩
    | bl b =>
      refine ⟨_, rfl, _, _, _, _, true, rfl, .ty _, .base (.bl b), kit_ty (by decide +kernel), _, rfl, iteT ?_⟩
      exact ⟨_, rfl, _, _, _, _, true, rfl, .ty _, .base (.bl b), kit_ty (by decide +kernel), _, rfl, _, rfl, iteF q⟩
  obtain ⟨n, rfl, q⟩ := h
  refine ⟨_, rfl, _, _, _, _, true, rfl, .ty _, .base (.int _), kit_ty (by decide +kernel), _, rfl, iteT ?_⟩
  refine ⟨_, rfl, _, _, _, _, false, rfl, .ty _, .base (.int _), kit_ty (by decide +kernel), _, rfl, _, rfl, iteT ?_⟩
  refine ⟨_, rfl, _, rfl, _, _, rfl, rfl, _, rfl, ?_⟩
  unfold isValue at q
  by_cases c : -99 ≤ n
  · rw [decide_eq_true c] at q
    rw [decide_eq_true c]
    exact ⟨_, _, rfl, rfl, q⟩
  · rw [decide_eq_false c] at q
    rw [decide_eq_false c]
    exact q
theorem c_is_value (T : Top w K mg) : Cal P w K mg base CX0 1 "is_value" spIsValue := (cg_is_value T).imp fun _ _ _ _ => Or.inl
/-! ### is_word -/
def spIsWord : Sp := fun vs H Q _ => match vs with
  | [x] => ∃ z : Str, x = .str z ∧ z.length ≤ sizeLine ∧ Q (.bl (isWord z)) H
  | _ => False
theorem sc_is_word : FnScope ["value", "letter"] ["value"] (defScope s_is_word) := ⟨rfl, rfl, rfl, by decide +kernel, rfl, by decide +kernel, by decide +kernel⟩
/-- data that is no text -/
def noStr : PyData → Bool
  | .str _ => false
  | .dict _ => false
  | _ => true
def spIsWordG (K : PySem.W.Frag) : Sp := fun vs H Q E => spIsWord vs H Q E ∨ match vs with
  | [x] => ∃ d, Dp K H x d ∧ noStr d = true ∧ Q (.bl false) H
  | _ => False
theorem cg_is_word (T : Top w K mg) : Cal P w K mg base CX0 1 "is_word" (spIsWordG K) := by
  refine cal_0 (f_is_word T) (g_is_word T) sc_is_word (fun _ _ _ _ _ _ us hl => match us, hl with | [_], _ => rfl) (fun vs H Q E h => match vs, h with | [_], _ => rfl | [], .inl h => h.elim | [], .inr h => h.elim | _ :: _ :: _, .inl h => h.elim | _ :: _ :: _, .inr h => h.elim) (fun cdv A outer s H vs Q E hr h => ?_)
  match vs, h with
  | [x], h =>
  refine ⟨_, (pss_cons (ps_if (PW.pt (pw_or (pt_not (pt_val (pcb (z_isinstance T) call_isi boot_isinstance (pa_cons (pv 0) (pa_cons (pty (z_str T) boot_str) pa_nil))))) (pw_or1 (pt_not (pt_chain op_le op_le pe_int (pcb (z_len T) call_len_str boot_len (pa_cons (pv 0) pa_nil)) (pglI (i_LONGEST T)))))))
      (pss_one (ps_ret pe_bl))
      pss_nil)
    (pss_cons (ps_for PassesOwn.never rfl (pi_str (pv 0)) (pg_name (i := 1) sc_is_word.nd rfl (Or.inl rfl))
      (pss_one (ps_if (pt_cmpR op_notIn_sign (pv 1) (pglS (i_LETTERS T)) rfl)
      (pss_one (ps_ret pe_bl))
      pss_nil)))
    (pss_one (ps_ret pe_bl)))), ?_⟩
  rcases h with h | ⟨d, hd, hn, q⟩
  case inr =>
    cases hd with
    | str z => cases hn
    | non => exact ⟨_, rfl, _, _, _, _, false, rfl, .ty _, .base .non, kit_ty (by decide +kernel), _, rfl, iteT q⟩
    | int z => exact ⟨_, rfl, _, _, _, _, false, rfl, .ty _, .base (.int z), kit_ty (by decide +kernel), _, rfl, iteT q⟩
    | bl z => exact ⟨_, rfl, _, _, _, _, false, rfl, .ty _, .base (.bl z), kit_ty (by decide +kernel), _, rfl, iteT q⟩
    | lst h1 _ => exact ⟨_, rfl, _, _, _, _, false, rfl, .ty _, tyL h1, kit_ty (by decide +kernel), _, rfl, iteT q⟩
    | tup h1 _ => exact ⟨_, rfl, _, _, _, _, false, rfl, .ty _, tyT h1, kit_ty (by decide +kernel), _, rfl, iteT q⟩
  obtain ⟨z, rfl, hz, q⟩ := h
  refine ⟨_, rfl, _, _, _, _, true, rfl, .ty _, .base (.str _), kit_ty (by decide +kernel), _, rfl, ?_⟩
  refine iteF ?_
  refine ⟨_, rfl, _, rfl, hz, _, _, rfl, rfl, _, rfl, ?_⟩
  have no : ∀ b : Bool, isWord z = b → Q (.bl b) H := fun b e => by rw [← e]; exact q
  by_cases c1 : 1 ≤ (z.length : Int)
  case neg =>
    rw [decide_eq_false c1]
    exact iteF ⟨_, rfl, iteT (no false (by unfold isWord; rw [decide_eq_false (by omega)]; rfl))⟩
  rw [decide_eq_true c1]
  refine iteT ?_
  refine ⟨_, _, rfl, rfl, _, rfl, ?_⟩
  by_cases c2 : (z.length : Int) ≤ 6
  case neg =>
    rw [decide_eq_false c2]
    exact iteT (no false (by unfold isWord; rw [decide_eq_false (by omega : ¬ z.length ≤ 6), Bool.and_false]; rfl))
  rw [decide_eq_true c2]
  refine iteF ?_
  have e0 : isWord z = z.cps.toList.all isLet := by
    unfold isWord
    rw [decide_eq_true (by omega), decide_eq_true (by omega)]
    rfl
  refine ⟨_, rfl, _, rfl, for_it walk_str (fun i σ H' => H' = H ∧ (∃ v, σ = [some (.str z), v]) ∧ (z.cps.toList.take i).all isLet = true) ⟨rfl, ⟨_, rfl⟩, rfl⟩ (fun _ _ _ _ _ => trivial) ?_ ?_⟩
  · rintro i x σ H1 H2 hi ⟨rfl, ⟨v, rfl⟩, ha⟩ ⟨rfl, c, hc, rfl⟩
    refine ⟨_, rfl, c, _, rfl, rfl, _, rfl, ?_⟩
    have hc' : z.cps.toList[i]? = some c := by simpa using hc
    by_cases m : c ∈ ("abcdefghijklmnopqrstuvwxyz" : Str).cps.toList
    · rw [decide_eq_true m]
      refine iteF ⟨rfl, ⟨_, rfl⟩, ?_⟩
      rw [List.take_add_one, hc', List.all_append, ha]
      show ([c].all isLet) = true
      simp only [List.all_cons, List.all_nil, Bool.and_true]
      exact decide_eq_true m
    · rw [decide_eq_false m]
      refine iteT (no false (e0.trans ?_))
      rw [List.all_eq_false]
      exact ⟨c, List.mem_of_getElem? hc', by unfold isLet; rw [decide_eq_false m]; exact Bool.false_ne_true⟩
  · rintro σ H1 ⟨rfl, ⟨v, rfl⟩, ha⟩
    refine no true (e0.trans ?_)
    rw [← ha, List.take_of_length_le (by simp)]
theorem c_is_word (T : Top w K mg) : Cal P w K mg base CX0 1 "is_word" spIsWord := (cg_is_word T).imp fun _ _ _ _ => Or.inl
end
end RM

set_option Elab.async false
set_option linter.all false
set_option maxRecDepth 100000
set_option maxHeartbeats 2000000
namespace RM
open PySem PySem.Spec PyProof.Rows L2
/-! ### dicts from words to values -/
abbrev WM := List (Str × Int)
def mK (m : WM) : List (Key × V) := m.map fun q => (Sum.inr q.1, V.int q.2)
/-- right words and values, no word twice -/
def okM (m : WM) : Prop := (∀ q ∈ m, isWord q.1 = true ∧ isValue q.2 = true) ∧ (m.map (·.1)).Nodup
theorem mK_get {m : WM} {i : Nat} {k : Key} {v : V} (h : (mK m)[i]? = some (k, v)) : ∃ q, m[i]? = some q ∧ k = .inr q.1 ∧ v = .int q.2 := by
  unfold mK at h
  rw [List.getElem?_map] at h
  obtain ⟨q, hq, e⟩ := Option.map_eq_some_iff.mp h
  injection e with e1 e2
  exact ⟨q, hq, e1.symm, e2.symm⟩
theorem valV_mK : ∀ {m : WM}, (m.map (·.1)).Nodup → ∀ q ∈ m, valV (mK m) (Sum.inr q.1) = some (.int q.2)
  | [], _, q, h => by simp at h
  | p :: r, hn, q, h => by
    rw [List.map_cons, List.nodup_cons] at hn
    rcases List.mem_cons.mp h with rfl | h
    · show (((Sum.inr q.1, V.int q.2) :: mK r).find? fun kv => decide (kv.1 = Sum.inr q.1)).map (·.2) = _
      rw [List.find?_cons_of_pos (by simp)]
      rfl
    · have ne : p.1 ≠ q.1 := fun e => hn.1 (by rw [e]; exact List.mem_map.mpr ⟨q, h, rfl⟩)
      show (((Sum.inr p.1, V.int p.2) :: mK r).find? fun kv => decide (kv.1 = Sum.inr q.1)).map (·.2) = _
      rw [List.find?_cons_of_neg (by simpa using ne)]
      exact valV_mK hn.2 q h
theorem upd_back {H : Hp} {a : Addr} {u o : HO} (h : H a = some u) : upd (upd H a o) a u = H := by
  funext b
  by_cases e : b = a
  · rw [e, upd_same, h]
  · rw [upd_ne e, upd_ne e]
/-- m2 holds what m holds, its words ascending -/
def SortM (m m2 : WM) : Prop := m2.Perm m ∧ sortedS (m2.map (·.1)) = true
/-- what a dict's comprehension adds -/
abbrev addsD (D : Addr) (tk tv : TE) : L2.St → Hp → (Hp → Prop) → Prop := fun σ H N => tk σ H fun y H4 => tv σ H4 fun z H5 => ∃ kvs k, y = kV k ∧ H5 D = some (.dK kvs) ∧ kvs.length < sizeLine ∧ N (upd H5 D (.dK (putK kvs k z)))
/-- a dict's comprehension over a walk: I by the turn -/
theorem dc_walk {J : It} {n : Nat} {G : Hp → Prop} {Y : Nat → Hp → V → Hp → Prop} (wk : Walk J n G Y) {g : TG} {tt : TT} {tk tv : TE} {vs : List Nat} {σ : L2.St} {H1 : Hp} {D : Addr} {Qd : Hp → Prop} (I : Nat → Hp → Prop) (start : I 0 (upd H1 D (.dK [])))
    (stay : ∀ i H, i ≤ n → I i H → G H) (turn : ∀ i x H H', i < n → I i H → Y i H x H' → g x (wipe σ vs) H' fun σ2 H2 => wipe σ2 vs = wipe σ vs ∧ tt σ2 H2 fun b H3 => if b = true then addsD D tk tv σ2 H3 (I (i + 1)) else I (i + 1) H3)
    (last : ∀ H, I n H → Qd H) : ∃ W : Nat → Nat → Hp → Prop, (∃ m, W 0 m (upd H1 D (.dK []))) ∧ Turns J g tt (addsD D tk tv) (wipe σ vs) vs W Qd := by
  refine ⟨fun i m H => m + i = n ∧ I i H, ⟨n, rfl, start⟩, ?_⟩
  rintro i m H ⟨e, hI⟩
  have hG := stay i H (by omega) hI
  cases m with
  | zero =>
    obtain rfl : i = n := by omega
    exact .inl ⟨wk.stops H hG, last H hI⟩
  | succ m => exact .inr ⟨wk.goes i H (by omega) hG, I (i + 1), fun H' h => ⟨m, by omega, by omega, h⟩, fun x H' y => turn i x H H' (by omega) hI (wk.yields i H x H' (by omega) hG y)⟩
/-- the map with the words ks in their order -/
def pick (m : WM) (ks : List Str) : WM := ks.map fun k => (k, ((m.find? fun q => decide (q.1 = k)).map (·.2)).getD 0)
theorem find_own : ∀ {m : WM}, (m.map (·.1)).Nodup → ∀ q ∈ m, ((m.find? fun p => decide (p.1 = q.1)).map (·.2)).getD 0 = q.2
  | [], _, q, h => by simp at h
  | p :: r, hn, q, h => by
    rw [List.map_cons, List.nodup_cons] at hn
    rcases List.mem_cons.mp h with rfl | h
    · rw [List.find?_cons_of_pos (by simp)]
      rfl
    · have ne : p.1 ≠ q.1 := fun e => hn.1 (by rw [e]; exact List.mem_map.mpr ⟨q, h, rfl⟩)
      rw [List.find?_cons_of_neg (by simpa using ne)]
      exact find_own hn.2 q h
theorem pick_keys (m : WM) (ks : List Str) : (pick m ks).map (·.1) = ks := by
  unfold pick
  rw [List.map_map]
  exact List.map_id ks
theorem pick_perm {m : WM} {ks : List Str} (hn : (m.map (·.1)).Nodup) (hp : ks.Perm (m.map (·.1))) : (pick m ks).Perm m := by
  have h := hp.map fun k => (k, ((m.find? fun q => decide (q.1 = k)).map (·.2)).getD 0)
  rw [List.map_map] at h
  have e : m.map ((fun k => (k, ((m.find? fun q => decide (q.1 = k)).map (·.2)).getD 0)) ∘ (·.1)) = m := by
    have key : ∀ l : WM, (∀ q ∈ l, q ∈ m) → l.map ((fun k => (k, ((m.find? fun q => decide (q.1 = k)).map (·.2)).getD 0)) ∘ (·.1)) = l := by
      intro l
      induction l with
      | nil => intro _; rfl
      | cons q r ih =>
        intro hl
        rw [List.map_cons, ih fun x hx => hl x (List.mem_cons_of_mem _ hx)]
        show (q.1, ((m.find? fun p => decide (p.1 = q.1)).map (·.2)).getD 0) :: r = q :: r
        rw [find_own hn q (hl q List.mem_cons_self)]
    exact key m fun _ h => h
  rw [e] at h
  exact h
/-- a new word goes to the end -/
theorem put_new {m : WM} {z : Str} {n : Int} (h : z ∉ m.map (·.1)) : putK (mK m) (Sum.inr z) (.int n) = mK (m ++ [(z, n)]) := by
  have e : ((mK m).any fun kv => decide (kv.1 = Sum.inr z)) = false := by
    rw [List.any_eq_false]
    intro kv hkv
    obtain ⟨q, hq, rfl⟩ := List.mem_map.mp hkv
    simp only [decide_eq_true_eq]
    intro e
    exact h (List.mem_map.mpr ⟨q, hq, Sum.inr.inj e⟩)
  unfold putK
  rw [if_neg (by rw [e]; exact Bool.false_ne_true)]
  unfold mK
  rw [List.map_append]
  rfl
section
variable {P : Program} {w : World} {K : PySem.W.Frag} {mg : Str → Option Value} {base : Heap}
def spChk : Sp := fun vs H Q _ => match vs with
  | [x, y] => ∃ (a : Addr) (m : WM) (least : Nat), x = .ref a ∧ y = .int least ∧ H a = some (.dK (mK m)) ∧ okM m ∧ least ≤ m.length ∧ m.length ≤ 4 ∧
    ∀ p H' m2, Same H H' → H p = none → H' p = some (.dK (mK m2)) → SortM m m2 → Q (.ref p) H'
  | _ => False
theorem sc_checked : FnScope ["values", "least", "key"] ["values", "least"] (defScope s_checked) := ⟨rfl, rfl, rfl, by decide +kernel, rfl, by decide +kernel, by decide +kernel⟩
theorem c_checked (T : Top w K mg) : Cal P w K mg base CX0 3 "checked" spChk := by
  refine cal_0 (f_checked T) (g_checked T) sc_checked (fun _ _ _ _ _ _ us hl => match us, hl with | [_, _], _ => rfl) (fun vs H Q E h => match vs, h with | [_, _], _ => rfl) (fun cdv A outer s H vs Q E hr h => ?_)
  match vs, h with
  | [x, y], h =>
  obtain ⟨a, m, least, rfl, rfl, ha, hg, h1, h2, q⟩ := h
  have lm : (mK m).length = m.length := List.length_map ..
  refine ⟨_, (pss_cons (ps_if (PW.pt (pw_or (pt_not (pt_val (pcb (z_isinstance T) call_isi boot_isinstance (pa_cons (pv 0) (pa_cons (pty (z_dict T) boot_dict) pa_nil))))) (pw_or1 (pt_not (pt_chain op_le op_le (pv 1) (pcb (z_len T) call_lenD boot_len (pa_cons (pv 0) pa_nil)) (pglI (i_MOST_surroundings T)))))))
      (pss_one ps_never)
      pss_nil)
    (pss_cons (ps_lock (ps_for PassesOwn.never rfl (pi_keys (pv 0)) (pg_name (i := 2) sc_checked.nd rfl (Or.inl rfl))
      (pss_one (ps_if (PW.pt (pw_or (pt_not (pt_val (pc (c_is_word T) hr (pa_cons (pv 2) pa_nil)))) (pw_or1 (pt_not (pt_val (pc (c_is_value T) hr (pa_cons (pe_dget (hu_of hr) (pv 0) (pv 2) (fun _ _ => rfl)) pa_nil)))))))
      (pss_one ps_never)
      pss_nil))))
    (pss_one (ps_ret (pe_dc (own := [("key", 2)]) rfl sc_checked.nd (pi_list (pcb (z_sorted T) (call_sortedD rfl) boot_sorted (pa_cons (pv 0) pa_nil))) (blkOk_by (own := [("key", 2)]) (N := ["values", "least", "key"]) (sc := defScope s_checked) (by decide +kernel)) (fun _ _ _ _ _ => (pg_name (i := 2) sc_checked.nd rfl (Or.inl rfl) (Or.inr rfl))) (fun _ _ _ _ _ => pts_nil) (fun _ _ _ _ _ => (pv 2)) (fun _ _ _ _ _ => (pe_dget (hu_of hr) (pv 0) (pv 2) (fun _ _ => rfl)))))))), ?_⟩
  refine ⟨_, rfl, _, _, _, _, true, rfl, .ty _, .base (.dK ha), kit_ty (by decide +kernel), _, rfl, iteF ?_⟩
  refine ⟨_, rfl, _, rfl, a, mK m, rfl, ha, _, _, rfl, rfl, _, rfl, ?_⟩
  rw [decide_eq_true (by omega : ((least : Nat) : Int) ≤ ((mK m).length : Nat))]
  refine iteT ⟨_, _, rfl, rfl, _, rfl, ?_⟩
  refine ifF (by rw [Bool.not_eq_false', decide_eq_true_eq]; show (((mK m).length : Nat) : Int) ≤ 4; omega) ?_
  -- for key in values
  refine ⟨a, .dK (mK m), ha, trivial, fun od => ?_⟩
  refine ⟨_, rfl, a, od, rfl, .inl ⟨mK m, upd_same, for_it walk_keys (fun i σ H' => H' = upd H a (.frz od (.dK (mK m))) ∧ ∃ v, σ = [some (.ref a), some (.int least), v]) ⟨rfl, _, rfl⟩ (fun i σ H' _ h => by rw [h.1]; exact upd_same) ?_ ?_⟩⟩
  · rintro i x σ H1 H2 hi ⟨rfl, v, rfl⟩ ⟨rfl, k, v2, hk, rfl⟩
    obtain ⟨p, hp, rfl, rfl⟩ := mK_get hk
    have hm := List.mem_of_getElem? hp
    obtain ⟨g1, g2⟩ := hg.1 p hm
    refine ⟨_, rfl, p.1, rfl, word_size g1, ?_⟩
    rw [g1]
    refine ⟨_, rfl, iteF ?_⟩
    refine ⟨_, rfl, _, rfl, a, .int p.2, rfl, .inl ⟨mK m, .inr p.1, .inr ⟨od, upd_same⟩, rfl, (valV_mK hg.2 p hm).symm⟩, p.2, rfl, ?_⟩
    rw [g2]
    exact ⟨_, rfl, ifF rfl ⟨rfl, _, rfl⟩⟩
  · rintro σ H1 ⟨rfl, v, rfl⟩
    refine ⟨upd_same, ?_⟩
    rw [upd_back ha]
    refine ⟨_, rfl, a, mK m, m.map (·.1), rfl, .of ha, by unfold mK; rw [List.map_map, List.map_map]; rfl, by rw [List.length_map]; omega, fun ys p hperm hsort hp => ?_⟩
    refine ⟨p, rfl, ⟨_, SqL.of upd_same⟩, fun D nD => ?_⟩
    have s1 := smNew1 hp (.lst (ys.map V.str))
    have hD0 : H D = none := s1.free nD
    have ly : ys.length = m.length := by rw [hperm.length_eq, List.length_map]
    have nd : ys.Nodup := hperm.nodup_iff.mpr hg.2
    have Dp : D ≠ p := fun z => by rw [z, upd_same] at nD; cases nD
    refine dc_walk walk_list (fun i H' => Same H H' ∧ H' p = some (.lst (ys.map V.str)) ∧ H' D = some (.dK (mK (pick m (ys.take i))))) ⟨smNew s1 nD _, by rw [upd_ne (Ne.symm Dp)]; exact upd_same, upd_same⟩ (fun i H' _ h => SqL.of h.2.1) ?_ ?_
    · rintro i x H1 H2 hi ⟨e, hp1, hD⟩ ⟨rfl, hx⟩
      rw [List.getElem?_map] at hx
      obtain ⟨z, hz, rfl⟩ := Option.map_eq_some_iff.mp hx
      obtain ⟨q1, hq1, rfl⟩ := List.mem_map.mp (hperm.mem_iff.mp (List.mem_of_getElem? hz))
      have il := (List.getElem?_eq_some_iff.mp hz).1
      refine ⟨rfl, yesI ?_⟩
      refine ⟨_, rfl, _, rfl, _, rfl, a, .int q1.2, rfl, .inl ⟨mK m, .inr q1.1, .of (e _ _ ha), rfl, (valV_mK hg.2 q1 hq1).symm⟩, mK (pick m (ys.take i)), .inr q1.1, rfl, hD, small1000 ?_, ?_⟩
      · show ((pick m (ys.take i)).map _).length ≤ 1000
        rw [List.length_map]
        show ((ys.take i).map _).length ≤ 1000
        rw [List.length_map, List.length_take]
        omega
      · have hne : q1.1 ∉ (pick m (ys.take i)).map (·.1) := by
          rw [pick_keys]
          intro hin
          obtain ⟨j, hj, ej⟩ := List.mem_iff_getElem.mp hin
          rw [List.getElem_take] at ej
          have jl : j < i := by rw [List.length_take] at hj; omega
          have := (List.getElem_inj (h₀ := by omega) (h₁ := il) nd).mp (ej.trans (List.getElem?_eq_some_iff.mp hz).2.symm)
          omega
        rw [put_new hne]
        refine ⟨smOut e hD0 _, by rw [upd_ne (Ne.symm Dp)]; exact hp1, ?_⟩
        rw [upd_same, List.take_add_one, hz]
        unfold pick
        rw [List.map_append]
        show some (HO.dK (mK (_ ++ [(q1.1, q1.2)]))) = some (HO.dK (mK (_ ++ [(q1.1, ((m.find? fun q => decide (q.1 = q1.1)).map (·.2)).getD 0)])))
        rw [find_own hg.2 q1 hq1]
    · rintro H1 ⟨e, _, hD⟩
      rw [List.length_map, List.take_length] at hD
      exact q D H1 (pick m ys) e hD0 hD ⟨pick_perm hg.2 hperm, by rw [pick_keys]; exact hsort⟩
end
end RM

set_option Elab.async false
set_option linter.all false
set_option maxRecDepth 100000
set_option maxHeartbeats 2000000
namespace RM
open PySem PySem.Spec PyProof.Rows L2
section
variable {P : Program} {w : World} {K : PySem.W.Frag} {mg : Str → Option Value} {base : Heap}
/-! ### Change(..), Surroundings(..) -/
/-- an object of the class at C whose field f is a dict of words m, ascending -/
def MapAt (H : Hp) (C : Addr) (f : Str) (a : Addr) (m : WM) : Prop := ∃ dx p, H a = some (.ins C dx [(f, .ref p)]) ∧ H p = some (.dK (mK m)) ∧ okM m ∧ sortedS (m.map (·.1)) = true
theorem MapAt.keep {H H' : Hp} {C : Addr} {f : Str} {a : Addr} {m : WM} (e : Same H H') (h : MapAt H C f a m) : MapAt H' C f a m := let ⟨dx, p, h1, h2, h3⟩ := h; ⟨dx, p, e _ _ h1, e _ _ h2, h3⟩
theorem okM_perm {m m2 : WM} (h : okM m) (p : m2.Perm m) : okM m2 := ⟨fun q hq => h.1 q (p.mem_iff.mp hq), (p.map _).nodup_iff.mpr h.2⟩
def spMapInit (C : Addr) (f : Str) (least : Nat) : Sp := fun vs H Q _ => match vs with
  | [x, v] => ∃ a dx b m, x = .ref a ∧ v = .ref b ∧ H a = some (.ins C dx []) ∧ H b = some (.dK (mK m)) ∧ okM m ∧ least ≤ m.length ∧ m.length ≤ 4 ∧
    ∀ H' m2, (∀ b u, b ≠ a → H b = some u → H' b = some u) → MapAt H' C f a m2 → m2.Perm m → Q .non H'
  | _ => False
theorem sc_Change_init : FnScope ["self", "values"] ["self", "values"] (defScope s_Change_init) := ⟨rfl, rfl, rfl, by decide +kernel, rfl, by decide +kernel, by decide +kernel⟩
theorem c_Change_init (T : Top w K mg) : Mak P w K mg base CX0 4 "Change" (He.ga K "Change") (spMapInit (He.ga K "Change") "given" 0) := by
  refine mak_0 (f_Change_init T) (mk_Change T) (g_Change T) sc_Change_init (fun _ _ _ _ _ _ us hl => match us, hl with | [_, _], _ => rfl) (fun vs H Q E h => match vs, h with | [_, _], _ => rfl) (fun cdv A outer s H vs Q E hr h => ?_)
  match vs, h with
  | [x, v], h =>
  obtain ⟨a, dx, b, m, rfl, rfl, ha, hb, hg, h1, h2, q⟩ := h
  refine ⟨_, (pss_one (ps_fld (pv 0) (pc (c_checked T) hr (pa_cons (pv 1) (pa_cons pe_int pa_nil))) rfl)), ?_⟩
  refine ⟨_, rfl, b, m, 0, rfl, rfl, hb, hg, h1, h2, fun p H1 m2 e1 np hp st => ?_⟩
  have ha1 := e1 _ _ ha
  have pa : p ≠ a := fun z => by rw [z, ha] at np; cases np
  refine ⟨_, rfl, a, _, dx, [], rfl, ha1, k_Change T, na_Change_given T, by decide, ?_⟩
  refine q _ m2 (fun c u hc hu => by rw [upd_ne hc]; exact e1 _ _ hu) ⟨dx, p, upd_same, by rw [upd_ne pa]; exact hp, okM_perm hg st.1, st.2⟩ st.1
end
end RM

set_option Elab.async false
set_option linter.all false
set_option maxRecDepth 100000
set_option maxHeartbeats 2000000
namespace RM
open PySem PySem.Spec PyProof.Rows L2
section
variable {P : Program} {w : World} {K : PySem.W.Frag} {mg : Str → Option Value} {base : Heap}
theorem sc_Surroundings_init : FnScope ["self", "values"] ["self", "values"] (defScope s_Surroundings_init) := ⟨rfl, rfl, rfl, by decide +kernel, rfl, by decide +kernel, by decide +kernel⟩
theorem c_Surroundings_init (T : Top w K mg) : Mak P w K mg base CX0 4 "Surroundings" (He.ga K "Surroundings") (spMapInit (He.ga K "Surroundings") "now" 1) := by
  refine mak_0 (f_Surroundings_init T) (mk_Surroundings T) (g_Surroundings T) sc_Surroundings_init (fun _ _ _ _ _ _ us hl => match us, hl with | [_, _], _ => rfl) (fun vs H Q E h => match vs, h with | [_, _], _ => rfl) (fun cdv A outer s H vs Q E hr h => ?_)
  match vs, h with
  | [x, v], h =>
  obtain ⟨a, dx, b, m, rfl, rfl, ha, hb, hg, h1, h2, q⟩ := h
  refine ⟨_, (pss_one (ps_fld (pv 0) (pc (c_checked T) hr (pa_cons (pv 1) (pa_cons pe_int pa_nil))) rfl)), ?_⟩
  refine ⟨_, rfl, b, m, 1, rfl, rfl, hb, hg, h1, h2, fun p H1 m2 e1 np hp st => ?_⟩
  have ha1 := e1 _ _ ha
  have pa : p ≠ a := fun z => by rw [z, ha] at np; cases np
  refine ⟨_, rfl, a, _, dx, [], rfl, ha1, k_Surroundings T, na_Surroundings_now T, by decide, ?_⟩
  refine q _ m2 (fun c u hc hu => by rw [upd_ne hc]; exact e1 _ _ hu) ⟨dx, p, upd_same, by rw [upd_ne pa]; exact hp, okM_perm hg st.1, st.2⟩ st.1
end
end RM

set_option Elab.async false
set_option linter.all false
set_option maxRecDepth 100000
set_option maxHeartbeats 2000000
namespace RM
open PySem PySem.Spec PyProof.Rows L2
section
variable {P : Program} {w : World} {K : PySem.W.Frag} {mg : Str → Option Value} {base : Heap}
/-! ### state -/
def spState (K : PySem.W.Frag) : Sp := fun vs H Q _ => match vs with
  | [x] => ∃ a m, x = .ref a ∧ MapAt H (He.ga K "Surroundings") "now" a m ∧ m.length ≤ 4 ∧ ∀ p H', Same H H' → H' p = some (.tup (m.map fun q => V.int q.2)) → Q (.ref p) H'
  | _ => False
theorem sc_Surroundings_state : FnScope ["self", "key"] ["self"] (defScope s_Surroundings_state) := ⟨rfl, rfl, rfl, by decide +kernel, rfl, by decide +kernel, by decide +kernel⟩
theorem c_Surroundings_state (T : Top w K mg) : Met P w K mg base CX0 2 (He.ga K "Surroundings") "state" (spState K) := by
  refine met_0 (f_Surroundings_state T) (k_Surroundings T) (me_Surroundings_state T) sc_Surroundings_state (fun _ _ _ _ _ _ us hl => match us, hl with | [_], _ => rfl) (fun vs H Q E h => match vs, h with | [_], _ => rfl) (fun cdv A outer s H vs Q E hr h => ?_)
  match vs, h with
  | [x], h =>
  obtain ⟨a, m, rfl, ⟨dx, p, ha, hp, hg, hs⟩, hl, q⟩ := h
  refine ⟨_, (pss_one (ps_ret (pct (z_tuple T) call_tuple_of boot_tuple (pa_cons (pe_lock (pe_lc (own := [("key", 1)]) rfl sc_Surroundings_state.nd (pi_keys (pe_fld (pv 0) rfl)) (blkOk_by (own := [("key", 1)]) (N := ["self", "key"]) (sc := defScope s_Surroundings_state) (by decide +kernel)) (fun _ _ _ _ _ => (pg_name (i := 1) sc_Surroundings_state.nd rfl (Or.inl rfl) (Or.inr rfl))) (fun _ _ _ _ _ => pts_nil) (fun _ _ _ _ _ => (pe_dget (hu_of hr) (pe_fld' (K := K) rfl (pv 0) rfl) (pv 1) (fun _ _ => rfl))))) pa_nil)))), ?_⟩
  have pa : a ≠ p := fun z => by
    rw [z, hp] at ha
    cases ha
  refine ⟨p, .dK (mK m), hp, trivial, fun od => ?_⟩
  have haL : (upd H p (.frz od (.dK (mK m)))) a = some (.ins (He.ga K "Surroundings") dx [("now", .ref p)]) := by rw [upd_ne pa]; exact ha
  refine ⟨_, rfl, a, _, dx, _, _, rfl, haL, k_Surroundings T, na_Surroundings_now T, rfl, p, od, rfl, .inl ⟨mK m, upd_same, fun D nD => ?_⟩⟩
  have lm : (mK m).length = m.length := List.length_map ..
  refine lc_opt walk_keys (fun (n : Int) y _ => y = .int n) (fun i => (m.map (·.2))[i]?) nD (small1000 (by omega)) (fun H' e => e _ _ upd_same) (fun _ _ _ _ h _ => h) (fun _ _ _ _ _ h _ => h) ?_ ?_
  · rintro i x H1 H2 N hi e ⟨rfl, k, v, hk, rfl⟩ hk2 _
    obtain ⟨z, hz, rfl, rfl⟩ := mK_get hk
    have hm := List.mem_of_getElem? hz
    refine ⟨rfl, yesI ?_⟩
    refine ⟨_, rfl, a, _, dx, _, _, rfl, e _ _ haL, k_Surroundings T, na_Surroundings_now T, rfl, _, rfl, p, .int z.2, rfl, .inl ⟨mK m, .inr z.1, .inr ⟨od, e _ _ upd_same⟩, rfl, (valV_mK hg.2 z hm).symm⟩, ?_⟩
    exact hk2 _ _ z.2 (by rw [List.getElem?_map, hz]; rfl) (Same.refl _) rfl
  · intro H' ys e hD hp'
    have el : (mK m).length = (m.map (·.2)).length := by rw [lm, List.length_map]
    rw [el, some_range] at hp'
    have hys : ys = (m.map (·.2)).map V.int := paired_eq hp'
    have eH := e _ _ (upd_same : (upd H p (.frz od (.dK (mK m)))) p = _)
    have Dp : D ≠ p := fun z => by
      rw [z] at hD
      rw [hD] at eH
      cases eH
    refine ⟨eH, D, ys, rfl, .inl ⟨SqL.of (by rw [upd_ne Dp]; exact hD), fun t ht => ?_⟩⟩
    refine q t _ (smNew (fun b u hb => ?_) ht _) ?_
    · by_cases hbp : b = p
      · rw [hbp] at hb ⊢
        rw [upd_same, ← hb, hp]
      · rw [upd_ne hbp]
        exact e _ _ (by rw [upd_ne hbp]; exact hb)
    · rw [upd_same, hys, List.map_map]
      rfl
end
end RM

set_option Elab.async false
set_option linter.all false
set_option maxRecDepth 100000
set_option maxHeartbeats 2000000
/-! reading set comprehensions of texts; rising texts are one -/
namespace RM
open PySem PySem.Spec PyProof.Rows L2
theorem small_scan {n : Nat} (h : n ≤ 1000) : n + 1 < scanBound := by unfold scanBound; omega
/-- one clause -/
theorem scX_of {P : Program} {w : World} {J : It} {n : Nat} {G : Hp → Prop} {Y : Nat → Hp → V → Hp → Prop} (wk : Walk J n G Y) {g : TG} {tt : TT} {te : TE} {vs : List Nat} {σ : L2.St} {H1 : Hp} {D : Addr} {Qd : Hp → Prop}
    (o : Nat → Option Str) (hD : H1 D = none) (hn : n ≤ 1000) (hG : ∀ H, Same H1 H → G H)
    (hs : ∀ i x H H' (N : Hp → Prop), i < n → Same H1 H → Y i H x H' →
      (∀ H4 k, o i = some k → Same H H4 → ∃ c l, V.str k = .str c ∧ H4 D = some (SetX P w D l) ∧ l.length + 1 < scanBound ∧ N (upd H4 D (SetX P w D (insX c l)))) → (o i = none → ∀ H3, Same H H3 → N H3) →
      g x (wipe σ vs) H' fun σ2 H2 => wipe σ2 vs = wipe σ vs ∧ tt σ2 H2 fun b H3 => if b = true then addsX P w D te σ2 H3 N else N H3)
    (hd : ∀ H l, Same H1 H → H D = some (SetX P w D l) → l.length ≤ n → (∀ k, k ∈ l ↔ ∃ i, i < n ∧ o i = some k) → Qd H) :
    ∃ W : Nat → Nat → Hp → Prop, (∃ m, W 0 m (upd H1 D (SetX P w D []))) ∧ Turns J g tt (addsX P w D te) (wipe σ vs) vs W Qd := by
  refine ⟨fun i m H => m = n - i ∧ i ≤ n ∧ Same H1 H ∧ ∃ l, H D = some (SetX P w D l) ∧ l.length ≤ i ∧ ∀ k, k ∈ l ↔ ∃ j, j < i ∧ o j = some k, ⟨n, by simp, Nat.zero_le _, smNew1 hD _, [], upd_same, Nat.le_refl _, fun k => ⟨fun z => by simp at z, fun ⟨j, h, _⟩ => by omega⟩⟩, ?_⟩
  rintro i m H ⟨rfl, hi, s1, l, hl, hll, hm⟩
  by_cases hlt : i < n
  · refine .inr ⟨wk.goes i H hlt (hG H s1), fun H' => Same H1 H' ∧ ∃ l, H' D = some (SetX P w D l) ∧ l.length ≤ i + 1 ∧ ∀ k, k ∈ l ↔ ∃ j, j < i + 1 ∧ o j = some k, fun H' p' => ⟨n - (i + 1), by omega, rfl, hlt, p'⟩, fun x H' y => ?_⟩
    refine hs i x H H' _ hlt s1 (wk.yields i H x H' hlt (hG H s1) y) (fun H4 k ho s4 => ⟨k, l, rfl, s4 _ _ hl, small_scan (by omega), fun b u q => ?_, insX k l, upd_same, Nat.le_trans insX_len (by omega), fun k' => ?_⟩) fun ho H3 s3 => ⟨s1.trans s3, l, s3 _ _ hl, by omega, fun k' => ?_⟩
    · rw [upd_ne (ne_of_none q hD)]
      exact s4 _ _ (s1 _ _ q)
    · rw [insX_mem, hm]
      constructor
      · rintro (rfl | ⟨j, hj, e⟩)
        · exact ⟨i, by omega, ho⟩
        · exact ⟨j, by omega, e⟩
      · rintro ⟨j, hj, e⟩
        by_cases hji : j = i
        · subst hji
          rw [ho] at e
          exact .inl (Option.some.inj e).symm
        · exact .inr ⟨j, by omega, e⟩
    · rw [hm]
      constructor
      · rintro ⟨j, hj, e⟩
        exact ⟨j, by omega, e⟩
      · rintro ⟨j, hj, e⟩
        by_cases hji : j = i
        · subst hji
          rw [ho] at e
          cases e
        · exact ⟨j, by omega, e⟩
  · have e : i = n := by omega
    subst e
    exact .inl ⟨wk.stops H (hG H s1), hd H l s1 hl hll hm⟩
/-- the inner clause's loop: the texts f 0 .. f (n1 - 1) go in -/
theorem scX_in {P : Program} {w : World} {J1 : It} {n1 : Nat} {G1 : Hp → Prop} {Y1 : Nat → Hp → V → Hp → Prop} (wk : Walk J1 n1 G1 Y1) {g1 : TG} {tt1 : TT} {te : TE} {vs1 : List Nat} {σ2 : L2.St} {H0 H4 : Hp} {D : Addr} {N : Hp → Prop} {l0 : List Str}
    (f : Nat → Str) (hD : H0 D = none) (h4 : Same H0 H4) (hl0 : H4 D = some (SetX P w D l0)) (hn : l0.length + n1 ≤ 1000) (hG : ∀ H, Same H0 H → G1 H)
    (hs : ∀ j x H H' (N1 : Hp → Prop), j < n1 → Same H0 H → Y1 j H x H' →
      (∀ H7, Same H H7 → ∃ c l, V.str (f j) = .str c ∧ H7 D = some (SetX P w D l) ∧ l.length + 1 < scanBound ∧ N1 (upd H7 D (SetX P w D (insX c l)))) →
      g1 x (wipe σ2 vs1) H' fun σ3 H5 => wipe σ3 vs1 = wipe σ2 vs1 ∧ tt1 σ3 H5 fun b H6 => if b = true then addsX P w D te σ3 H6 N1 else N1 H6)
    (hd : ∀ H l, Same H0 H → H D = some (SetX P w D l) → l.length ≤ l0.length + n1 → (∀ k, k ∈ l ↔ k ∈ l0 ∨ ∃ j, j < n1 ∧ f j = k) → N H) :
    ∃ W1 : Nat → Nat → Hp → Prop, (∃ m, W1 0 m H4) ∧ Turns J1 g1 tt1 (addsX P w D te) (wipe σ2 vs1) vs1 W1 N := by
  refine ⟨fun i m H => m = n1 - i ∧ i ≤ n1 ∧ Same H0 H ∧ ∃ l, H D = some (SetX P w D l) ∧ l.length ≤ l0.length + i ∧ ∀ k, k ∈ l ↔ k ∈ l0 ∨ ∃ j, j < i ∧ f j = k, ⟨n1, by simp, Nat.zero_le _, h4, l0, hl0, Nat.le_refl _, fun k => ⟨.inl, fun z => z.elim id fun ⟨j, h, _⟩ => by omega⟩⟩, ?_⟩
  rintro i m H ⟨rfl, hi, s1, l, hl, hll, hm⟩
  by_cases hlt : i < n1
  · refine .inr ⟨wk.goes i H hlt (hG H s1), fun H' => Same H0 H' ∧ ∃ l, H' D = some (SetX P w D l) ∧ l.length ≤ l0.length + (i + 1) ∧ ∀ k, k ∈ l ↔ k ∈ l0 ∨ ∃ j, j < i + 1 ∧ f j = k, fun H' p' => ⟨n1 - (i + 1), by omega, rfl, hlt, p'⟩, fun x H' y => ?_⟩
    refine hs i x H H' _ hlt s1 (wk.yields i H x H' hlt (hG H s1) y) fun H7 s7 => ⟨f i, l, rfl, s7 _ _ hl, small_scan (by omega), fun b u q => ?_, insX (f i) l, upd_same, Nat.le_trans insX_len (by omega), fun k' => ?_⟩
    · rw [upd_ne (ne_of_none q hD)]
      exact s7 _ _ (s1 _ _ q)
    · rw [insX_mem, hm]
      constructor
      · rintro (rfl | h | ⟨j, hj, e⟩)
        · exact .inr ⟨i, by omega, rfl⟩
        · exact .inl h
        · exact .inr ⟨j, by omega, e⟩
      · rintro (h | ⟨j, hj, e⟩)
        · exact .inr (.inl h)
        · by_cases hji : j = i
          · subst hji
            exact .inl e.symm
          · exact .inr (.inr ⟨j, by omega, e⟩)
  · have e : i = n1 := by omega
    subst e
    exact .inl ⟨wk.stops H (hG H s1), hd H l s1 hl hll hm⟩
/-! ### rising texts -/
/-- the members zs, each once, in the order of texts -/
def KeysOf (ks zs : List Str) : Prop := sortedS ks = true ∧ ks.Nodup ∧ ∀ k, k ∈ ks ↔ k ∈ zs
theorem rising_pw : ∀ (l : List Str) (p : Str), risingS p l = true → (p :: l).Pairwise fun a b => ¬ b.cps.toList < a.cps.toList
  | [], p, _ => List.pairwise_singleton _ _
  | x :: r, p, h => by
    have h' : (!ltCps x.cps.toList p.cps.toList && risingS x r) = true := h
    rw [Bool.and_eq_true] at h'
    have ih := rising_pw r x h'.2
    have h1 : ¬ x.cps.toList < p.cps.toList := fun z => by
      have := h'.1
      rw [ltCps_eq, decide_eq_true z] at this
      cases this
    refine List.pairwise_cons.mpr ⟨fun y hy => ?_, ih⟩
    rcases List.mem_cons.mp hy with rfl | hy
    · exact h1
    · have h2 := (List.pairwise_cons.mp ih).1 y hy
      exact List.not_lt.mpr (List.le_trans (List.not_lt.mp h1) (List.not_lt.mp h2))
theorem sorted_pw : ∀ {l : List Str}, sortedS l = true → l.Pairwise fun a b => ¬ b.cps.toList < a.cps.toList
  | [], _ => .nil
  | x :: r, h => rising_pw r x h
theorem str_antisymm {a b : Str} (h1 : ¬ b.cps.toList < a.cps.toList) (h2 : ¬ a.cps.toList < b.cps.toList) : a = b := by
  have e := List.le_antisymm (List.not_lt.mp h1) (List.not_lt.mp h2)
  obtain ⟨⟨x⟩⟩ := a
  obtain ⟨⟨y⟩⟩ := b
  have e' : x = y := e
  rw [e']
theorem pw_one : ∀ {l m : List Str}, l.Pairwise (fun a b => ¬ b.cps.toList < a.cps.toList) → m.Pairwise (fun a b => ¬ b.cps.toList < a.cps.toList) → l.Nodup → m.Nodup → (∀ k, k ∈ l ↔ k ∈ m) → l = m
  | [], [], _, _, _, _, _ => rfl
  | [], y :: m, _, _, _, _, h => by simpa using (h y).mpr List.mem_cons_self
  | x :: l, [], _, _, _, _, h => by simpa using (h x).mp List.mem_cons_self
  | x :: l, y :: m, hl, hm, nl, nm, h => by
    obtain ⟨l1, l2⟩ := List.pairwise_cons.mp hl
    obtain ⟨m1, m2⟩ := List.pairwise_cons.mp hm
    obtain ⟨a1, a2⟩ := List.nodup_cons.mp nl
    obtain ⟨b1, b2⟩ := List.nodup_cons.mp nm
    have e : x = y := by
      rcases List.mem_cons.mp ((h x).mp List.mem_cons_self) with e | hx
      · exact e
      · rcases List.mem_cons.mp ((h y).mpr List.mem_cons_self) with e | hy
        · exact e.symm
        · exact str_antisymm (l1 y hy) (m1 x hx)
    subst e
    rw [pw_one l2 m2 a2 b2 fun k => ?_]
    constructor
    · intro hk
      rcases List.mem_cons.mp ((h k).mp (List.mem_cons_of_mem _ hk)) with e | z
      · exact absurd (e ▸ hk) a1
      · exact z
    · intro hk
      rcases List.mem_cons.mp ((h k).mpr (List.mem_cons_of_mem _ hk)) with e | z
      · exact absurd (e ▸ hk) b1
      · exact z
theorem KeysOf.one {ks ks' zs zs' : List Str} (a : KeysOf ks zs) (b : KeysOf ks' zs') (h : ∀ k, k ∈ zs ↔ k ∈ zs') : ks = ks' :=
  pw_one (sorted_pw a.1) (sorted_pw b.1) a.2.1 b.2.1 fun k => (a.2.2 k).trans ((h k).trans (b.2.2 k).symm)
theorem KeysOf.of {ks l zs : List Str} (p : ks.Perm l) (nd : l.Nodup) (s : sortedS ks = true) (h : ∀ k, k ∈ l ↔ k ∈ zs) : KeysOf ks zs := ⟨s, p.nodup_iff.mpr nd, fun k => p.mem_iff.trans (h k)⟩
end RM

set_option Elab.async false
set_option linter.all false
set_option maxRecDepth 100000
set_option maxHeartbeats 2000000
/-! dicts of words: what is got, put over one another -/
namespace RM
open PySem PySem.Spec PyProof.Rows L2
def wKeys (m : WM) : List Str := m.map (·.1)
def wVals (m : WM) : List Int := m.map (·.2)
def wGet (m : WM) (k : Str) : Option Int := (m.find? fun q => decide (q.1 = k)).map (·.2)
theorem wGet_nil (k : Str) : wGet [] k = none := rfl
theorem wGet_cons (p : Str × Int) (r : WM) (k : Str) : wGet (p :: r) k = if p.1 = k then some p.2 else wGet r k := by
  unfold wGet
  by_cases e : p.1 = k
  · rw [List.find?_cons_of_pos (by simpa using e), if_pos e]
    rfl
  · rw [List.find?_cons_of_neg (by simpa using e), if_neg e]
theorem wGet_none {m : WM} {k : Str} : wGet m k = none ↔ k ∉ wKeys m := by
  induction m with
  | nil => simp [wGet_nil, wKeys]
  | cons p r ih =>
    rw [wGet_cons]
    show _ ↔ k ∉ p.1 :: wKeys r
    by_cases e : p.1 = k
    · rw [if_pos e, e]
      simp
    · rw [if_neg e, ih, List.mem_cons, not_or]
      exact ⟨fun h => ⟨Ne.symm e, h⟩, fun h => h.2⟩
theorem wGet_mem {m : WM} (hn : (wKeys m).Nodup) {q : Str × Int} (h : q ∈ m) : wGet m q.1 = some q.2 := by
  induction m with
  | nil => simp at h
  | cons p r ih =>
    have hn' : (p.1 :: wKeys r).Nodup := hn
    rw [List.nodup_cons] at hn'
    rw [wGet_cons]
    rcases List.mem_cons.mp h with rfl | h
    · rw [if_pos rfl]
    · rw [if_neg fun e => hn'.1 (by rw [e]; exact List.mem_map.mpr ⟨q, h, rfl⟩)]
      exact ih hn'.2 h
theorem wGet_some {m : WM} {k : Str} {n : Int} (h : wGet m k = some n) : (k, n) ∈ m := by
  induction m with
  | nil => simp [wGet_nil] at h
  | cons p r ih =>
    rw [wGet_cons] at h
    by_cases e : p.1 = k
    · rw [if_pos e] at h
      rw [← e, ← Option.some.inj h]
      exact List.mem_cons_self
    · rw [if_neg e] at h
      exact List.mem_cons_of_mem _ (ih h)
theorem wGet_perm {m g : WM} (hn : (wKeys g).Nodup) (p : m.Perm g) (k : Str) : wGet m k = wGet g k := by
  have hm : (wKeys m).Nodup := (p.map _).nodup_iff.mpr hn
  cases e : wGet m k with
  | none =>
    symm
    rw [wGet_none] at e ⊢
    exact fun h => e ((p.map (·.1)).mem_iff.mpr h)
  | some n => exact (wGet_mem hn (q := (k, n)) (p.mem_iff.mp (wGet_some e))).symm
theorem valV_get (m : WM) (k : Str) : valV (mK m) (Sum.inr k) = (wGet m k).map V.int := by
  induction m with
  | nil => rfl
  | cons p r ih =>
    rw [wGet_cons]
    show valV ((Sum.inr p.1, V.int p.2) :: mK r) (Sum.inr k) = _
    by_cases e : p.1 = k
    · rw [valV_pos (by show Sum.inr p.1 = _; rw [e]), if_pos e]
      rfl
    · rw [valV_neg (by show ¬ Sum.inr p.1 = _; exact fun z => e (Sum.inr.inj z)), if_neg e, ih]
def wPut (m : WM) (k : Str) (n : Int) : WM := if k ∈ wKeys m then m.map (fun q => if q.1 = k then (k, n) else q) else m ++ [(k, n)]
theorem putK_w (m : WM) (k : Str) (n : Int) : putK (mK m) (Sum.inr k) (.int n) = mK (wPut m k n) := by
  have a : ((mK m).any fun kv => decide (kv.1 = Sum.inr k)) = decide (k ∈ wKeys m) := by
    rw [Bool.eq_iff_iff, List.any_eq_true, decide_eq_true_iff]
    constructor
    · rintro ⟨kv, h, e⟩
      obtain ⟨q, hq, rfl⟩ := List.mem_map.mp h
      exact List.mem_map.mpr ⟨q, hq, Sum.inr.inj (of_decide_eq_true e)⟩
    · intro h
      obtain ⟨q, hq, e⟩ := List.mem_map.mp h
      exact ⟨(Sum.inr q.1, .int q.2), List.mem_map.mpr ⟨q, hq, rfl⟩, decide_eq_true (by rw [e])⟩
  unfold putK wPut
  rw [a]
  by_cases h : k ∈ wKeys m
  · rw [if_pos (decide_eq_true h), if_pos h]
    unfold mK
    rw [List.map_map, List.map_map]
    refine List.map_congr_left fun q _ => ?_
    show (if Sum.inr q.1 = Sum.inr k then _ else _) = (fun q : Str × Int => ((Sum.inr q.1 : Key), V.int q.2)) (if q.1 = k then (k, n) else q)
    by_cases e : q.1 = k
    · rw [if_pos (by rw [e]), if_pos e]
      show (Sum.inr q.1, V.int n) = (Sum.inr k, V.int n)
      rw [e]
    · rw [if_neg (fun z => e (Sum.inr.inj z)), if_neg e]
  · rw [if_neg (by simpa using h), if_neg h]
    unfold mK
    rw [List.map_append]
    rfl
theorem wKeys_put (m : WM) (k : Str) (n : Int) : wKeys (wPut m k n) = if k ∈ wKeys m then wKeys m else wKeys m ++ [k] := by
  unfold wPut
  by_cases h : k ∈ wKeys m
  · rw [if_pos h, if_pos h]
    unfold wKeys
    rw [List.map_map]
    refine List.map_congr_left fun q _ => ?_
    show (if q.1 = k then (k, n) else q).1 = q.1
    by_cases e : q.1 = k
    · rw [if_pos e, e]
    · rw [if_neg e]
  · rw [if_neg h, if_neg h]
    unfold wKeys
    rw [List.map_append]
    rfl
theorem wGet_app (m : WM) (k j : Str) (n : Int) : wGet (m ++ [(k, n)]) j = (wGet m j).or (if k = j then some n else none) := by
  induction m with
  | nil => rw [List.nil_append, wGet_cons]; rfl
  | cons p r ih =>
    rw [List.cons_append, wGet_cons, wGet_cons, ih]
    by_cases e : p.1 = j
    · rw [if_pos e, if_pos e]
      rfl
    · rw [if_neg e, if_neg e]
theorem wGet_put (m : WM) (k j : Str) (n : Int) : wGet (wPut m k n) j = if k = j then some n else wGet m j := by
  unfold wPut
  by_cases h : k ∈ wKeys m
  · rw [if_pos h]
    by_cases e : k = j
    · rw [if_pos e, ← e]
      clear e j
      induction m with
      | nil => simp [wKeys] at h
      | cons p r ih =>
        rw [List.map_cons, wGet_cons]
        by_cases e : p.1 = k
        · rw [if_pos e, if_pos rfl]
        · rw [if_neg e, if_neg e]
          have h' : k ∈ p.1 :: wKeys r := h
          rcases List.mem_cons.mp h' with z | z
          · exact absurd z.symm e
          · exact ih z
    · rw [if_neg e]
      clear h
      induction m with
      | nil => rfl
      | cons p r ih =>
        rw [List.map_cons, wGet_cons, wGet_cons, ih]
        by_cases q : p.1 = k
        · rw [if_pos q, if_neg e, if_neg (by rw [q]; exact e)]
        · rw [if_neg q]
  · rw [if_neg h, wGet_app]
    by_cases e : k = j
    · rw [if_pos e, if_pos e, ← e, wGet_none.mpr h]
      rfl
    · rw [if_neg e, if_neg e, Option.or_none]
/-- g over m -/
def wOver (m g : WM) : WM := g.foldl (fun acc q => wPut acc q.1 q.2) m
theorem mergeK_w (m g : WM) : mergeK (mK m) (mK g) = mK (wOver m g) := by
  induction g generalizing m with
  | nil => rfl
  | cons q r ih =>
    show mergeK (putK (mK m) (Sum.inr q.1) (.int q.2)) (mK r) = mK (wOver (wPut m q.1 q.2) r)
    rw [putK_w, ih]
theorem nodup_put {m : WM} (h : (wKeys m).Nodup) (k : Str) (n : Int) : (wKeys (wPut m k n)).Nodup := by
  rw [wKeys_put]
  by_cases e : k ∈ wKeys m
  · rw [if_pos e]
    exact h
  · rw [if_neg e]
    refine List.nodup_append.mpr ⟨h, by simp, fun x hx y hy z => ?_⟩
    rw [List.mem_singleton.mp hy] at z
    exact e (z ▸ hx)
theorem nodup_over {m : WM} (h : (wKeys m).Nodup) (g : WM) : (wKeys (wOver m g)).Nodup := by
  induction g generalizing m with
  | nil => exact h
  | cons q r ih => exact ih (nodup_put h q.1 q.2)
theorem wGet_over {m g : WM} (h : (wKeys g).Nodup) (k : Str) : wGet (wOver m g) k = (wGet g k).or (wGet m k) := by
  induction g generalizing m with
  | nil => rw [wGet_nil]; rfl
  | cons q r ih =>
    have h' : (q.1 :: wKeys r).Nodup := h
    rw [List.nodup_cons] at h'
    show wGet (wOver (wPut m q.1 q.2) r) k = _
    rw [ih h'.2, wGet_put, wGet_cons]
    by_cases e : q.1 = k
    · rw [if_pos e, if_pos e, wGet_none.mpr (by rw [← e]; exact h'.1)]
      rfl
    · rw [if_neg e, if_neg e]
theorem wKeys_over {m g : WM} (h : ∀ k ∈ wKeys g, k ∈ wKeys m) : wKeys (wOver m g) = wKeys m := by
  induction g generalizing m with
  | nil => rfl
  | cons q r ih =>
    have hq : q.1 ∈ wKeys m := h _ List.mem_cons_self
    have e : wKeys (wPut m q.1 q.2) = wKeys m := by rw [wKeys_put, if_pos hq]
    show wKeys (wOver (wPut m q.1 q.2) r) = _
    rw [ih (fun k hk => by rw [e]; exact h _ (List.mem_cons_of_mem _ hk)), e]
/-- a map is told by its keys and what is got -/
theorem w_ext {m : WM} (hn : (wKeys m).Nodup) : m = (wKeys m).map fun k => (k, (wGet m k).getD 0) := by
  have key : ∀ l : WM, (∀ q ∈ l, q ∈ m) → l = (wKeys l).map fun k => (k, (wGet m k).getD 0) := by
    intro l
    induction l with
    | nil => intro _; rfl
    | cons q r ih =>
      intro hl
      show q :: r = (q.1, (wGet m q.1).getD 0) :: _
      rw [wGet_mem hn (hl q List.mem_cons_self)]
      exact congrArg _ (ih fun x hx => hl x (List.mem_cons_of_mem _ hx))
  exact key m fun _ h => h
theorem okM_put {m : WM} (h : okM m) {k : Str} {n : Int} (hk : isWord k = true) (hn : isValue n = true) : okM (wPut m k n) := by
  refine ⟨fun q hq => ?_, nodup_put h.2 k n⟩
  unfold wPut at hq
  split at hq
  · obtain ⟨p, hp, rfl⟩ := List.mem_map.mp hq
    by_cases e : p.1 = k
    · rw [if_pos e]
      exact ⟨hk, hn⟩
    · rw [if_neg e]
      exact h.1 p hp
  · rcases List.mem_append.mp hq with hq | hq
    · exact h.1 q hq
    · rw [List.mem_singleton.mp hq]
      exact ⟨hk, hn⟩
theorem okM_over {m g : WM} (h : okM m) (hg : ∀ q ∈ g, isWord q.1 = true ∧ isValue q.2 = true) : okM (wOver m g) := by
  induction g generalizing m with
  | nil => exact h
  | cons q r ih =>
    obtain ⟨h1, h2⟩ := hg q List.mem_cons_self
    exact ih (okM_put h h1 h2) fun x hx => hg x (List.mem_cons_of_mem _ hx)
theorem wOver_nil {m : WM} (hn : (wKeys m).Nodup) : wOver [] m = m := by
  have key : ∀ (g acc : WM), (wKeys (acc ++ g)).Nodup → wOver acc g = acc ++ g := by
    intro g
    induction g with
    | nil => intro acc _; rw [List.append_nil]; rfl
    | cons q r ih =>
      intro acc h
      have hq : q.1 ∉ wKeys acc := by
        unfold wKeys at h ⊢
        rw [List.map_append, List.nodup_append] at h
        exact fun z => h.2.2 q.1 z q.1 List.mem_cons_self rfl
      have e : wPut acc q.1 q.2 = acc ++ [q] := by unfold wPut; rw [if_neg hq]
      show wOver (wPut acc q.1 q.2) r = _
      rw [e, ih (acc ++ [q]) (by rw [List.append_assoc]; exact h), List.append_assoc]
      rfl
  exact key m [] hn
/-! ### ascending keys are one alone -/
theorem sort_one {m m2 : WM} (p : m2.Perm m) (hn : (wKeys m).Nodup) (s1 : sortedS (wKeys m) = true) (s2 : sortedS (wKeys m2) = true) : m2 = m := by
  have n2 : (wKeys m2).Nodup := (p.map _).nodup_iff.mpr hn
  have e : wKeys m2 = wKeys m := pw_one (sorted_pw s2) (sorted_pw s1) n2 hn fun k => (p.map (·.1)).mem_iff
  rw [w_ext n2, w_ext hn, e]
  exact List.map_congr_left fun k _ => by rw [wGet_perm hn p k]
end RM

set_option Elab.async false
set_option linter.all false
set_option maxRecDepth 100000
set_option maxHeartbeats 2000000
namespace RM
open PySem PySem.Spec PyProof.Rows L2
theorem room0 {k : Nat} {A : Around} (hr : Room k A) : A.units < cLine := by have := hr.un; omega
theorem rd_lock {H : Hp} {b p : Addr} {u v : HO} {od : Obj} (hb : H b = some u) (hp : H p = some v) : Rd (upd H p (.frz od v)) b u := by
  by_cases e : b = p
  · rw [e, hp] at hb
    cases hb
    rw [e]
    exact .inr ⟨od, upd_same⟩
  · exact .inl (by rw [upd_ne e]; exact hb)
theorem same_back {H H' : Hp} {p : Addr} {u : HO} {od : Obj} (hp : H p = some u) (e : Same (upd H p (.frz od u)) H') : Same H (upd H' p u) := fun b o hb => by
  by_cases z : b = p
  · rw [z] at hb ⊢
    rw [upd_same, ← hb, hp]
  · rw [upd_ne z]
    exact e _ _ (by rw [upd_ne z]; exact hb)
section
variable {P : Program} {w : World} {K : PySem.W.Frag} {mg : Str → Option Value} {base : Heap}
def ChgAt (K : PySem.W.Frag) (H : Hp) (a : Addr) (m : WM) : Prop := MapAt H (He.ga K "Change") "given" a m ∧ m.length ≤ 4
theorem ChgAt.keep {H H' : Hp} {a : Addr} {m : WM} (e : Same H H') (h : ChgAt K H a m) : ChgAt K H' a m := ⟨h.1.keep e, h.2⟩
theorem ChgAt.ok {H : Hp} {a : Addr} {m : WM} (h : ChgAt K H a m) : okM m ∧ sortedS (wKeys m) = true := let ⟨⟨_, _, _, _, a, b⟩, _⟩ := h; ⟨a, b⟩
end
end RM

set_option Elab.async false
set_option linter.all false
set_option maxRecDepth 100000
set_option maxHeartbeats 2000000
/-! tuple(a dict), {**a, **b} -/
namespace RM
open PySem PySem.Spec PyProof.Rows L2
section
variable {X : Cx}
/-- tuple(d): its keys -/
theorem call_tupleD (hcalm : X.calm = true) : CallR X (.type "tuple") (fun xs H Q => ∃ (a : Addr) (kvs : List (Key × V)), xs = [.ref a] ∧ Rd H a (.dK kvs) ∧ ∀ p, H p = none → Q (.ref p) (upd H p (.tup (kvs.map fun kv => kV kv.1)))) := by
  rintro pins s σ H xs us Q I r ⟨a, kvs, rfl, hd, q⟩
  obtain ⟨u, rfl, rx⟩ := vals1 r
  cases rx
  obtain ⟨z, lo, vs, rel, dd⟩ := dk_rd I.hok hd
  obtain ⟨ep, hat⟩ := dd.dictAt
  have lv : kvs.length = vs.length := rel.length
  have ks : (kvs.map fun kv => kV kv.1) = vs.map fun p => kV p.1 := by
    have := congrArg (List.map kV) rel.keys
    rw [List.map_map, List.map_map] at this
    exact this
  refine callType_codes (Q₁ := fun obj s₁ => s₁.TypeIs obj "tuple" ∧ EP X pins σ Q obj s₁) PySem.F.called_tuple (PySem.F.typeCall_tuple_1 _) PySem.F.entry_object_init ?_ fun obj s₁ h₁ =>
    ⟨h₁.1, PySem.F.args_object_init_2 obj _, object_init_meets PySem.F.called_tuple.init.lookup PySem.F.called_tuple.made (by decide) X.prog X.w X.A.in1 _ s₁ ⟨h₁.1, rfl, h₁.2⟩⟩
  refine codeAny_of_tree ?_
  show wpAny _ X.A.in1.in1 (do checkBuiltinCall "tuple.__new__" ⟨[.type "tuple", .ref a], []⟩; again (.builtin "tuple.__new__" ⟨[.type "tuple", .ref a], []⟩)) _ _ s
  refine wpAny_bind (wpAny_of_eq (PySem.F.newCall_tuple_1 _) (wpAny_pure ⟨plainId_quiet PySem.F.plain_tuple_new _, codeAny_builtin PySem.F.entry_tuple_new ?_⟩))
  rw [Around.under_plainId PySem.F.plain_tuple_new _]
  have c1 := sub_tuple_self
  have c2 := init_tuple_lookup
  have c3 := madeHere_tuple
  have ty : s.TypeIs (.ref a) "dict" := dd.typeIs
  have K := PySem.W.kdl_dict (prog := X.prog) (w := X.w) (knd := mixKind X.prog X.w) (kvs := vs) (ep := ep) lo
  have sz0 : vs.length ≤ sizeLine := lv ▸ z
  wp_walk using wpAny_typeOf ty, PySem.W.kdu_collect K (show X.A.in1.in1.handled = none from I.ok.hd hcalm) hat sz0
  intro h' tk acc hk hacc
  show wpAny _ _ (Builtin.Tuple.tupleExact acc.toList.toArray >>= fun v => ret v) _ _ _
  unfold Builtin.Tuple.tupleExact
  have sz : acc.toList.toArray.size ≤ sizeLine := by
    simp only [Array.toArray_toList]
    rw [hacc.1, ← lv]
    exact z
  refine wpAny_bind (wpAny_newObj_type ?_ sz)
  refine wpAny_pure ⟨⟨_, Heap.get?_push_size _ rfl, rfl⟩, ?_⟩
  have hv : Vals (kvs.map fun kv => kV kv.1) acc.toList := by
    rw [ks]
    exact keys_at (by rw [Array.length_toList]; exact hacc.1) fun j v e => hacc.2 j v (by rw [← Array.getElem?_toList]; exact e)
  have I1 : Inv X pins σ H { s with heap := h', toks := tk } := I.kept hk
  exact ⟨.ref h'.objs.size, _, I1.laid (t' := tk) (fun b o e => Heap.get?_push_of_some _ e) (Nat.le_refl _) (show ObjOk X.prog X.w _ _ _ (.tup (kvs.map fun kv => kV kv.1)) from ⟨by rw [List.length_map]; exact z, acc.toList, hv, IsTup.new _ _⟩), rfl, q _ (I1.hok.fresh (Nat.le_refl _))⟩
end
/-! ### {**a, **b} -/
section
variable {prog : Program} {w : World} {κ : Type} [DecidableEq κ] {knd : KeyKind prog w κ} {A : Around} {E : Value → Shared → Prop} {s : Shared} {d a : Addr} {kvs more : List (κ × Value)}
/-- one entry is put -/
theorem put_pair {k : κ} {key v : Value} {Q : Unit → Shared → Prop} (hkey : knd.is k key = true) (hm : s.heap.DictOf knd d kvs) (sz : kvs.length ≤ sizeLine)
    (then_ : ∀ h', h'.DictOf knd d (stored kvs k v) → Heap.SameBut d s.heap h' → Q () { s with heap := h' }) : wpAny (model prog w) A (dictPut d (knd.hash k) key v) Q E s := by
  obtain ⟨o, es, ep, ho, hc, hd, hk, hp, once⟩ := hm
  have same : (es.findIdx? fun e => knd.is k e.key) = kvs.findIdx? fun kv => decide (kv.1 = k) := by
    rw [← hp.findIdx k]
    obtain ⟨l⟩ := es
    simp
  have small : es.size ≤ sizeLine := by
    have e1 := hp.length
    have e2 : es.toList.length = es.size := by simp
    omega
  unfold dictPut
  refine wpAny_bind (wpAny_dictFind_of hkey ho hd hk ?_)
  cases at_ : es.findIdx? fun e => knd.is k e.key with
  | some i =>
    refine wpAny_updateDict ho hd (then_ _ ⟨_, _, ep, Heap.get?_update_self _ ho (Obj.isFreed_of_dict (Obj.data_mapDict hd _)), hc.mapDict _, Obj.data_mapDict hd _, hk.modify _ _, ?_, ?_⟩ (Heap.SameBut.update ..))
    · rw [stored, if_pos (any_of_findIdx_some (same ▸ at_))]
      have hl : (es.toList.findIdx? fun e => knd.is k e.key) = some i := by
        rw [← at_]
        obtain ⟨l⟩ := es
        simp
      have := hp.modify once hl v
      obtain ⟨l⟩ := es
      simpa using this
    · rw [stored, if_pos (any_of_findIdx_some (same ▸ at_)), keys_map_store]
      exact once
  | none =>
    have out : k ∉ kvs.map (·.1) := not_mem_of_findIdx_none (same ▸ at_)
    have no : ¬ (kvs.any fun kv => decide (kv.1 = k)) = true := fun h => by
      obtain ⟨kv, hkv, he⟩ := List.any_eq_true.mp h
      exact out (List.mem_map.mpr ⟨kv, hkv, of_decide_eq_true he⟩)
    refine wpAny_updateDictKeys (hz := small) ho hd (then_ _ ⟨_, _, ep + 1, Heap.get?_update_self _ ho (Obj.isFreed_of_dict (Obj.data_mapDictKeys hd _)), hc.mapDictKeys _, Obj.data_mapDictKeys hd _, hk.push hkey _, ?_, ?_⟩ (Heap.SameBut.update ..))
    · rw [stored, if_neg no]
      have := hp.append hkey (knd.hash k) v
      obtain ⟨l⟩ := es
      simpa using this
    · rw [stored, if_neg no, List.map_append]
      refine List.nodup_append.mpr ⟨once, by simp, fun x hx y hy e => ?_⟩
      simp only [List.map_cons, List.map_nil, List.mem_singleton] at hy
      exact out (hy ▸ e ▸ hx)
end
end RM

set_option Elab.async false
set_option linter.all false
set_option maxRecDepth 100000
set_option maxHeartbeats 2000000
/-! {**a, **b} -/
namespace RM
open PySem PySem.Spec PyProof.Rows L2
section
variable {prog : Program} {w : World} {κ : Type} [DecidableEq κ] {knd : PySem.KeyKind prog w κ} {A : Around} {E : Value → Shared → Prop} {s : Shared} {d a : Addr} {kvs more : List (κ × Value)}
theorem merge_in {Q : Unit → Shared → Prop} (ne : d ≠ a) (lo : (a == sysModules) = false) (hd : s.heap.DictOf knd d kvs) (ha : s.heap.DictOf knd a more) (sz : kvs.length + more.length ≤ sizeLine)
    (then_ : ∀ h', h'.DictOf knd d (merged kvs more) → Heap.SameBut d s.heap h' → Q () { s with heap := h' }) : wpAny (model prog w) A (mergeMapping d (.ref a) false) Q E s := by
  obtain ⟨od, esd, epd, hod, _, hdd, _, _, _⟩ := id hd
  obtain ⟨oa, esa, epa, hoa, hca, hda, hka, hpa, hna⟩ := id ha
  have len : more.length = esa.size := by rw [← hpa.length]; simp
  unfold mergeMapping
  refine wpAny_bind (wpAny_isInstance ha.typeIs isSubtype_dict_dict ?_)
  rw [if_pos rfl]
  refine wpAny_bind (wpAny_specialOf ha.typeIs PySem.F.slot_dict_iter.lookup ?_)
  refine wpAny_bind (wpAny_pure ?_)
  rw [show (some (Value.builtin "dict.__iter__") == some (Value.builtin "dict.__iter__")) = true by decide]
  dsimp only
  rw [if_neg (by rw [lo]; exact Bool.false_ne_true)]
  have loop : wpAny (model prog w) A (do
      let es ← dictEntries a
      let epoch ← dictEpoch a
      forIn (List.range es.size) PUnit.unit fun i (_ : PUnit) => (do
          let es ← dictEntries a
          match es[i]? with
            | some e => do
              holding [e.key, e.val]
                  (if false = true then do
                    let l ← dictFind d e.key e.hash
                    if l.isSome = true then do
                        rule "dict.merge.duplicate-key"
                        let x ← newExc (Value.type "KeyError") [e.key]
                        raiseNew x
                        dictPut d e.hash e.key e.val
                      else dictPut d e.hash e.key e.val
                  else dictPut d e.hash e.key e.val)
              let ep ← dictEpoch a
              if (ep != epoch) = true then do
                  (unsupported "dict.changed-during-merge" : Sem PUnit)
                  pure (ForInStep.yield PUnit.unit)
                else pure (ForInStep.yield PUnit.unit)
            | _ => do
              (unsupported "dict.changed-during-merge" : Sem PUnit)
              pure (ForInStep.yield PUnit.unit) : Sem (ForInStep PUnit))
      pure ()) Q E s := by
    refine wpAny_bind (wpAny_dictEntries hoa hda (wpAny_bind (wpAny_dictEpoch hoa hda (wpAny_bind ?_))))
    refine wpAny_forIn_list _ (fun rest _ s' => ∃ h' i, s' = { s with heap := h' } ∧ rest = (List.range esa.size).drop i ∧ i ≤ esa.size ∧ h'.DictOf knd d (merged kvs (more.take i)) ∧ h'.get? a = some oa ∧ Heap.SameBut d s.heap h') _ ?_ ?_ _ _
      ⟨s.heap, 0, rfl, rfl, Nat.zero_le _, hd, hoa, Heap.SameBut.refl _ _⟩
    · rintro x rest b s' ⟨h', i, rfl, hr, hi, hd', hoa', hs'⟩
      have lt : i < esa.size := by
        rcases Nat.lt_or_ge i esa.size with h | h
        · exact h
        · rw [List.drop_eq_nil_of_le (by rw [List.length_range]; exact h)] at hr
          cases hr
      rw [List.drop_eq_getElem_cons (by rw [List.length_range]; exact lt), List.getElem_range] at hr
      injection hr with e1 e2
      subst e1 e2
      refine wpAny_bind (wpAny_dictEntries hoa' hda ?_)
      rw [Array.getElem?_eq_getElem lt]
      obtain ⟨⟨k, v⟩, hkv⟩ : ∃ kv, more[x]? = some kv := ⟨more[x]'(by rw [len]; exact lt), List.getElem?_eq_getElem _⟩
      obtain ⟨k1, v1⟩ := hpa.get? (e := esa[x]) (by simp [lt]) hkv
      obtain ⟨k2, k3, hh⟩ := hka esa[x] (Array.getElem_mem lt)
      obtain rfl : k2 = k := knd.inj _ _ _ k3 k1
      dsimp only
      rw [if_neg Bool.false_ne_true, hh, v1]
      have room : (merged kvs (more.take x)).length ≤ sizeLine := by
        have few := merged_length_le kvs (more.take x)
        rw [List.length_take] at few
        omega
      refine wpAny_bind (wpAny_holding (put_pair k1 hd' room fun h2 hd2 hs2 => ?_))
      have hoa2 : h2.get? a = some oa := (hs2.2 a (Ne.symm ne)).trans hoa'
      refine wpAny_bind (wpAny_dictEpoch hoa2 hda ?_)
      rw [if_neg (by simp)]
      exact wpAny_pure ⟨h2, x + 1, rfl, rfl, lt, by rw [merged_take_succ kvs more x (k2, v) hkv]; exact hd2, hoa2, hs'.trans hs2⟩
    · rintro b s' ⟨h', i, rfl, hr, hi, hd', hoa', hs'⟩
      have e : i = esa.size := by
        rcases Nat.lt_or_ge i esa.size with h | h
        · rw [List.drop_eq_getElem_cons (by rw [List.length_range]; exact h)] at hr
          cases hr
        · omega
      rw [e, ← len, List.take_length] at hd'
      exact wpAny_pure (then_ h' hd' hs')
  refine wpAny_bind (wpAny_dictEntries hod hdd ?_)
  split
  · refine wpAny_bind (wpAny_dictEntries hoa hda (wpAny_bind ?_))
    have quiet : (forIn esa PUnit.unit fun e (_ : PUnit) => (match e.key with
        | Value.ref _ => do
          let l ← specialOf e.key (Str.ofString "__eq__")
          if (l != some (Value.builtin "object.__eq__")) = true then
              if (Array.filter (fun x => x.hash == e.hash) esa).size > 1 then do
                (unsupported "dict.merge-into-an-empty-dict:keys-of-equal-hash" : Sem PUnit)
                pure (ForInStep.yield PUnit.unit)
              else pure (ForInStep.yield PUnit.unit)
            else pure (ForInStep.yield PUnit.unit)
        | _ => pure (ForInStep.yield PUnit.unit) : Sem (ForInStep PUnit))) = pure PUnit.unit := by
      rw [← Array.forIn_toList]
      refine forIn_yield_id _ fun e he c => ?_
      obtain ⟨k, hk, _⟩ := hka e (Array.mem_toList_iff.mp he)
      have bv := knd.byValue k _ hk
      cases q : e.key <;> first | rfl | (rw [q] at bv; exact absurd bv Bool.false_ne_true)
    exact wpAny_of_eq quiet loop
  · exact loop
end
/-- {**a, **b}: the new dict stands while the two are read -/
def tStar2 (ta tb : TE) : TE := fun σ H Q => ∀ p, H p = none → ta σ (upd H p (.dK [])) fun x H1 => ∃ a kvs, x = .ref a ∧ a ≠ p ∧ H1 p = some (.dK []) ∧ Rd H1 a (.dK kvs) ∧
  tb σ (upd H1 p (.dK (mergeK [] kvs))) fun y H2 => ∃ b more m1, y = .ref b ∧ b ≠ p ∧ H2 p = some (.dK m1) ∧ Rd H2 b (.dK more) ∧ m1.length + more.length ≤ sizeLine ∧ Q (.ref p) (upd H2 p (.dK (mergeK m1 more)))
section
variable {X : Cx}
theorem merge_V {pins : List (Addr × Obj)} {σ : L2.St} {H : Hp} {s : Shared} {p a : Addr} {m1 more : List (Key × V)} {A : Around} {E : Value → Shared → Prop} {Q : Unit → Shared → Prop} (I : Inv X pins σ H s) (hp : H p = some (.dK m1)) (ha : Rd H a (.dK more)) (ne : a ≠ p) (sz : m1.length + more.length ≤ sizeLine)
    (then_ : ∀ s', Inv X pins σ (upd H p (.dK (mergeK m1 more))) s' → Q () s') : wpAny (model X.prog X.w) A (mergeMapping p (.ref a) false) Q E s := by
  obtain ⟨z1, lo1, vs, r1, d1⟩ := dk_of I.hok hp
  obtain ⟨z2, lo2, us, r2, d2⟩ := dk_rd I.hok ha
  have l1 : m1.length = vs.length := r1.length
  have l2 : more.length = us.length := r2.length
  refine merge_in (Ne.symm ne) lo2 d1 d2 (by omega) fun h' hd hs => then_ _ ?_
  have len : (mergeK m1 more).length ≤ sizeLine := Nat.le_trans (length_mergeK more m1) sz
  have he : ∃ q, h'.get? p = some q := let ⟨q, _, _, hq, _⟩ := hd; ⟨q, hq⟩
  exact d_write (t' := s.toks) I (by rw [hp]; exact True.intro) hs he (dk_new len lo1 (KV.merge r2 r1) hd)
theorem pe_star2 {e1 e2 : Expr} {ta tb : TE} {pos : Pos} (h1 : PE X e1 ta) (h2 : PE X e2 tb) : PE X (.Dict [none, none] [e1, e2] pos) (tStar2 ta tb) := by
  refine ⟨fun pins s σ H Q I q => ?_⟩
  have q1 := q s.heap.objs.size (I.hok.fresh (Nat.le_refl _))
  have I1 := I.laid (t' := s.toks) (fun _ _ z => Heap.get?_push_of_some _ z) (Nat.le_refl _) (dk_empty (P := X.prog) (w := X.w) (H := upd H s.heap.objs.size (.dK [])) s.heap I.big)
  rw [arm_eval_Dict]
  refine wpAny_bind (wpAny_standAt ?_)
  show wpAny _ _ (dictDisplay [(none, do let x ← eval e1 X.env; standAt pos; pure x), (none, do let x ← eval e2 X.env; standAt pos; pure x)]) _ _ _
  unfold dictDisplay
  dsimp only
  refine wpAny_bind ?_
  rw [List.forIn_cons]
  refine wpAny_bind ?_
  dsimp only
  rw [if_pos (by rfl)]
  refine wpAny_bind (wpAny_pure ?_)
  dsimp only
  refine wpAny_bind (wpAny_alloc ?_)
  refine wpAny_bind (wpAny_holding (wpAny_bind (thn (h1.run pins _ σ _ _ I1 q1) ?_)))
  rintro v s1 ⟨_, H1, I2, rx, a, kvs, rfl, ne, hp, ha, q2⟩
  cases rx
  refine wpAny_bind (wpAny_standAt (wpAny_pure ?_))
  have l1 : kvs.length ≤ sizeLine := (dk_rd I2.hok ha).1
  refine wpAny_bind (wpAny_onRaise (wpAny_tryCatch (wpAny_onRaise (wpAny_holding (merge_V I2 hp ha ne (by rw [List.length_nil, Nat.zero_add]; exact l1) fun s2 I3 => ?_)))))
  refine wpAny_pure ?_
  dsimp only
  rw [List.forIn_cons]
  refine wpAny_bind ?_
  dsimp only
  rw [if_pos (by rfl)]
  refine wpAny_bind (wpAny_pure ?_)
  dsimp only
  refine wpAny_bind (wpAny_pure ?_)
  refine wpAny_bind (wpAny_holding (wpAny_bind (thn (h2.run pins _ σ _ _ I3 q2) ?_)))
  rintro v s3 ⟨_, H2, I4, rx, b, more, m1, rfl, ne2, hp2, hb, sz, q3⟩
  cases rx
  refine wpAny_bind (wpAny_standAt (wpAny_pure ?_))
  refine wpAny_bind (wpAny_onRaise (wpAny_tryCatch (wpAny_onRaise (wpAny_holding (merge_V I4 hp2 hb ne2 sz fun s4 I5 => ?_)))))
  refine wpAny_pure ?_
  dsimp only
  rw [List.forIn_nil]
  refine wpAny_pure ?_
  dsimp only
  rw [if_pos (by rfl)]
  refine wpAny_bind (wpAny_pure ?_)
  exact wpAny_pure ⟨.ref s.heap.objs.size, _, I5, rfl, q3⟩
end
end RM

set_option Elab.async false
set_option linter.all false
set_option maxRecDepth 100000
set_option maxHeartbeats 2000000
/-! dict(zip(a tuple, a tuple)) -/
namespace RM
open PySem PySem.Spec PyProof.Rows L2
section
variable {prog : Program} {w : World} {A : Around} {E : Value → Shared → Prop} {s : Shared} {z TI TO T i1 i2 : Addr} {fp1 fp2 : List Addr} {n1 n2 i : Nat} {P1 P2 : Nat → Value → Prop} {St1 St2 : Nat → Heap → Prop} {f : Bool} {oT : Obj}
/-- one more pair, while the pair before is still out -/
theorem held_more {Q : Value → Shared → Prop} (S : ZipSep2 z TI TO i1 i2 fp1 fp2) (D1 : Draws prog w A i1 fp1 n1 P1 St1) (D2 : Draws prog w A i2 fp2 n2 P2 St2) (hz : IsZipHeld s.heap z TI TO T f) (hT : s.heap.get? T = some oT) (hTI : IsTupOf2 s.heap TI (.ref i1) (.ref i2))
    (st1 : St1 i s.heap) (st2 : St2 i s.heap) (l1 : i < n1) (l2 : i < n2)
    (q : ∀ x y h' tk, P1 i x → P2 i y → IsZipHeld h' z TI TO T true → St1 (i + 1) h' → St2 (i + 1) h' → IsTupOf2 h' s.heap.objs.size x y → (∀ c o, c ≠ z → c ≠ i1 → c ≠ i2 → s.heap.get? c = some o → h'.get? c = some o) → Q (.ref s.heap.objs.size) { s with heap := h', toks := tk }) :
    wpAny (model prog w) A (Builtin.«zip.__next__» ⟨[.ref z], []⟩) (fun fin s' => ∃ v, fin = .done (.ret v) ∧ Q v s') E s := by
  show wpAny _ _ (field (.ref z) 2 >>= _) _ _ _
  refine wpAny_bind (wpAny_field hz rfl (x := .bool false) rfl ?_)
  show wpAny _ _ (field (.ref z) 3 >>= _) _ _ _
  refine wpAny_bind (wpAny_field hz rfl (x := .ref TI) rfl (wpAny_bind (wpAny_seqItems hTI rfl ?_)))
  show wpAny _ _ (Builtin.SmallTypes.ownedTupleIsFree (.ref z) >>= _) _ _ _
  refine wpAny_bind (wpAny_tupleHeld_zip hz hT fun h1 z1 k1 => ?_)
  rw [if_neg Bool.false_ne_true]
  refine wpAny_bind ?_
  rw [← Array.forIn_toList]
  simp only [List.forIn_cons, List.forIn_nil]
  refine wpAny_bind (wpAny_bind (wpAny_holding ?_))
  show wpAny _ _ (Builtin.SmallTypes.nextOf (.ref i1) >>= _) _ _ _
  refine wpAny_bind (D1.item i { s with heap := h1 } _ _ l1 (D1.over st1 k1 S.zf1) fun x h2 t2 px m1 k2 => wpAny_pure (wpAny_pure ?_))
  refine wpAny_bind (wpAny_bind (wpAny_holding ?_))
  show wpAny _ _ (Builtin.SmallTypes.nextOf (.ref i2) >>= _) _ _ _
  refine wpAny_bind (D2.item i { s with heap := h2, toks := t2 } _ _ l2 (D2.over (D2.over st2 k1 S.zf2) k2 S.sep1_2) fun y h3 t3 py m2 k3 => wpAny_pure (wpAny_pure (wpAny_pure ?_)))
  show wpAny _ _ (newTuple [x, y] >>= _) _ _ _
  refine wpAny_bind (wpAny_newTuple (wpAny_pure ⟨_, rfl, ?_⟩))
  have k2' : Heap.SameBut i1 h1 h2 := k2
  have k3' : Heap.SameBut i2 h2 h3 := k3
  have sz : h3.objs.size = s.heap.objs.size := by rw [k3'.1, k2'.1, k1.1]
  have z3 : IsZipHeld h3 z TI TO T true := k3'.extBut _ _ S.zi2 (k2'.extBut _ _ S.zi1 z1)
  have ks : ∀ c o, c ≠ z → c ≠ i1 → c ≠ i2 → s.heap.get? c = some o → h3.get? c = some o := fun c o c1 c2 c3 e => k3'.extBut _ _ c3 (k2'.extBut _ _ c2 (k1.extBut _ _ c1 e))
  have m1' : St1 (i + 1) h3 := D1.over m1 k3' S.sep2_1
  have up : ∀ c o, h3.get? c = some o → (h3.push { cls := .type "tuple", data := .seq #[x, y] }).get? c = some o := fun c o e => Heap.get?_push_of_some _ e
  have tp : IsTupOf2 (h3.push { cls := .type "tuple", data := .seq #[x, y] }) h3.objs.size x y := Heap.get?_push_size _ rfl
  show Q (.ref h3.objs.size) _
  rw [sz] at tp ⊢
  exact q x y _ t3 px py (up _ _ z3) (D1.frame _ _ _ m1' fun b _ o e => up b o e) (D2.frame _ _ _ m2 fun b _ o e => up b o e) tp fun c o c1 c2 c3 e => up c o (ks c o c1 c2 c3 e)
theorem held_end {Q : Fin → Shared → Prop} (S : ZipSep2 z TI TO i1 i2 fp1 fp2) (D1 : Draws prog w A i1 fp1 n1 P1 St1) (D2 : Draws prog w A i2 fp2 n2 P2 St2) (hz : IsZipHeld s.heap z TI TO T f) (hT : s.heap.get? T = some oT) (hTI : IsTupOf2 s.heap TI (.ref i1) (.ref i2))
    (st1 : St1 i s.heap) (st2 : St2 i s.heap) (l1 : i ≤ n1) (l2 : i ≤ n2) (e : i = n1 ∨ i = n2)
    (q : ∀ h' tk x, (∀ c o, c ≠ z → c ≠ i1 → c ≠ i2 → s.heap.get? c = some o → h'.get? c = some o) → (∃ o, h'.get? x = some o ∧ o.cls = .type "StopIteration") → E (.ref x) { s with heap := h', toks := tk }) :
    wpAny (model prog w) A (Builtin.«zip.__next__» ⟨[.ref z], []⟩) Q E s := by
  show wpAny _ _ (field (.ref z) 2 >>= _) _ _ _
  refine wpAny_bind (wpAny_field hz rfl (x := .bool false) rfl ?_)
  show wpAny _ _ (field (.ref z) 3 >>= _) _ _ _
  refine wpAny_bind (wpAny_field hz rfl (x := .ref TI) rfl (wpAny_bind (wpAny_seqItems hTI rfl ?_)))
  show wpAny _ _ (Builtin.SmallTypes.ownedTupleIsFree (.ref z) >>= _) _ _ _
  refine wpAny_bind (wpAny_tupleHeld_zip hz hT fun h1 z1 k1 => ?_)
  rw [if_neg Bool.false_ne_true]
  refine wpAny_bind ?_
  rw [← Array.forIn_toList]
  simp only [List.forIn_cons, List.forIn_nil]
  refine wpAny_bind (wpAny_bind (wpAny_holding ?_))
  show wpAny _ _ (Builtin.SmallTypes.nextOf (.ref i1) >>= _) _ _ _
  by_cases at1 : i = n1
  · refine wpAny_bind (D1.done { s with heap := h1 } _ _ (at1 ▸ D1.over st1 k1 S.zf1) fun h2 x k2 hx => ?_)
    exact q h2 _ x (fun c o c1 c2 _ e => k2 _ _ c2 (k1.extBut _ _ c1 e)) hx
  · have at2 : i = n2 := e.resolve_left at1
    refine wpAny_bind (D1.item i { s with heap := h1 } _ _ (by omega) (D1.over st1 k1 S.zf1) fun x h2 t2 px m1 k2 => wpAny_pure (wpAny_pure ?_))
    refine wpAny_bind (wpAny_bind (wpAny_holding ?_))
    show wpAny _ _ (Builtin.SmallTypes.nextOf (.ref i2) >>= _) _ _ _
    refine wpAny_bind (D2.done { s with heap := h2, toks := t2 } _ _ (at2 ▸ D2.over (D2.over st2 k1 S.zf2) k2 S.sep1_2) fun h3 x k3 hx => ?_)
    exact q h3 _ x (fun c o c1 c2 c3 e => k3 _ _ c3 (k2.extBut _ _ c2 (k1.extBut _ _ c1 e))) hx
end
section
variable {prog : Program} {w : World} {A : Around} {E : Value → Shared → Prop} {s : Shared} {z TI TO T i1 i2 : Addr} {fp1 fp2 : List Addr} {n1 n2 i : Nat} {P1 P2 : Nat → Value → Prop} {St1 St2 : Nat → Heap → Prop} {f : Bool} {oT : Obj}
theorem next_held {Q : Option Value → Shared → Prop} (S : ZipSep2 z TI TO i1 i2 fp1 fp2) (D1 : Draws prog w A.in1 i1 fp1 n1 P1 St1) (D2 : Draws prog w A.in1 i2 fp2 n2 P2 St2) (hz : IsZipHeld s.heap z TI TO T f) (hT : s.heap.get? T = some oT) (hTI : IsTupOf2 s.heap TI (.ref i1) (.ref i2))
    (st1 : St1 i s.heap) (st2 : St2 i s.heap) (l1 : i < n1) (l2 : i < n2)
    (q : ∀ x y h' tk, P1 i x → P2 i y → IsZipHeld h' z TI TO T true → St1 (i + 1) h' → St2 (i + 1) h' → IsTupOf2 h' s.heap.objs.size x y → (∀ c o, c ≠ z → c ≠ i1 → c ≠ i2 → s.heap.get? c = some o → h'.get? c = some o) → Q (some (.ref s.heap.objs.size)) { s with heap := h', toks := tk }) :
    wpAny (model prog w) A (pyNext (.ref z)) Q E s := by
  have ty : s.TypeIs (.ref z) "zip" := ⟨_, hz, rfl⟩
  unfold pyNext
  exact wpAny_bind (wpAny_attempt (wpAny_callSpecial?_slot (name := Str.ofString "__next__") ty PySem.F.slot_zip_next (wpAny_call_entry PySem.F.slot_zip_next ty PySem.F.entry_zip_next
    (held_more S D1 D2 hz hT hTI st1 st2 l1 l2 fun x y h' tk a b c d e g k => wpAny_pure (q x y h' tk a b c d e g k)) (PySem.F.args_zip_next_1 _))))
theorem next_held_end {Q : Option Value → Shared → Prop} (S : ZipSep2 z TI TO i1 i2 fp1 fp2) (D1 : Draws prog w A.in1 i1 fp1 n1 P1 St1) (D2 : Draws prog w A.in1 i2 fp2 n2 P2 St2) (hz : IsZipHeld s.heap z TI TO T f) (hT : s.heap.get? T = some oT) (hTI : IsTupOf2 s.heap TI (.ref i1) (.ref i2))
    (st1 : St1 i s.heap) (st2 : St2 i s.heap) (l1 : i ≤ n1) (l2 : i ≤ n2) (e : i = n1 ∨ i = n2)
    (q : ∀ h' tk, (∀ c o, c ≠ z → c ≠ i1 → c ≠ i2 → s.heap.get? c = some o → h'.get? c = some o) → Q none { s with heap := h', toks := tk }) : wpAny (model prog w) A (pyNext (.ref z)) Q E s := by
  have ty : s.TypeIs (.ref z) "zip" := ⟨_, hz, rfl⟩
  unfold pyNext
  refine wpAny_bind (wpAny_attempt (wpAny_callSpecial?_slot (name := Str.ofString "__next__") ty PySem.F.slot_zip_next (wpAny_call_entry PySem.F.slot_zip_next ty PySem.F.entry_zip_next
    (held_end S D1 D2 hz hT hTI st1 st2 l1 l2 e fun h' tk x k hx => ?_) (PySem.F.args_zip_next_1 _))))
  obtain ⟨o, ho, hc⟩ := hx
  exact wpAny_bind (wpAny_isInstance (T := "StopIteration") (b := true) ⟨o, ho, hc⟩ isSubtype_stop (wpAny_pure (q _ _ k)))
theorem out4 {c p q r t : Addr} (h : c ∉ [p, q, r, t]) : c ≠ p ∧ c ≠ q ∧ c ≠ r ∧ c ≠ t := by simpa only [List.mem_cons, List.not_mem_nil, or_false, not_or] using h
/-- zip(t1, t2) as dict's argument -/
theorem pairs_zipT {t1 t2 : Addr} (S : ZipSep2 z TI TO i1 i2 [i1, t1] [i2, t2]) (ne1 : t1 ≠ i1) (ne2 : t2 ≠ i2) (xs ys : Array Value) (hl : xs.size = ys.size) :
    PairArg prog w "zip" z [z, TI, TO, i1, i2, t1, t2] [z, TO, i1, i2] xs.size (fun i k v => xs[i]? = some k ∧ ys[i]? = some v)
      (fun h => IsZip h z TI TO .none ∧ IsTupOf2 h TI (.ref i1) (.ref i2) ∧ (∃ a b, IsTupOf2 h TO a b) ∧ (h.IsTupleIter i1 t1 0 ∧ h.IsTuple t1 xs) ∧ (h.IsTupleIter i2 t2 0 ∧ h.IsTuple t2 ys)) where
  type := fun _ z => ⟨_, z.1, rfl⟩
  notDict := by decide
  keep := fun h h' ok hk => by
    obtain ⟨a, b, ⟨x, y, c⟩, ⟨d, e⟩, g, j⟩ := ok
    exact ⟨hk _ _ a, hk _ _ b, ⟨x, y, hk _ _ c⟩, ⟨d.at fun o e => hk _ o e, e.at fun o e => hk _ o e⟩, g.at fun o e => hk _ o e, j.at fun o e => hk _ o e⟩
  there := fun h ok b hb => by
    obtain ⟨a, b1, ⟨x, y, c⟩, ⟨⟨o1, d, _⟩, ⟨o2, e, _⟩⟩, ⟨o3, g, _⟩, ⟨o4, j, _⟩⟩ := ok
    simp only [List.mem_cons, List.not_mem_nil, or_false] at hb
    rcases hb with rfl | rfl | rfl | rfl | rfl | rfl | rfl
    all_goals first | exact ⟨_, a⟩ | exact ⟨_, b1⟩ | exact ⟨_, c⟩ | exact ⟨_, d⟩ | exact ⟨_, g⟩ | exact ⟨_, e⟩ | exact ⟨_, j⟩
  sub := fun b hb => by
    simp only [List.mem_cons, List.not_mem_nil, or_false] at hb ⊢
    rcases hb with rfl | rfl | rfl | rfl <;> simp
  noKeys := fun _ _ _ _ calm ok k => getAttrOr_miss_zip (hA := calm) ok.1 rfl rfl rfl zip_no_keys (by decide +kernel) (h := k)
  iter := fun A s d Q E hA ok hd off h => by
    obtain ⟨hz, hTI, ⟨a, b, hTO⟩, m1, m2⟩ := ok
    simp only [List.mem_cons, List.not_mem_nil, or_false, not_or] at off
    obtain ⟨dz, dTI, dTO, di1, di2, dt1, dt2⟩ := off
    have D1 : Draws prog w A.in1 i1 [i1, t1] xs.size (fun i v => xs[i]? = some v) (fun i h => h.IsTupleIter i1 t1 i ∧ h.IsTuple t1 xs) := Draws.tuple (A := A.in1) hA i1 t1 ne1 xs
    have D2 : Draws prog w A.in1 i2 [i2, t2] ys.size (fun i v => ys[i]? = some v) (fun i h => h.IsTupleIter i2 t2 i ∧ h.IsTuple t2 ys) := Draws.tuple (A := A.in1) hA i2 t2 ne2 ys
    refine wpAny_pyIter_zip hz (h z [z, TO, i1, i2] (fun i h => IsTupOf2 h TI (.ref i1) (.ref i2) ∧ (h.IsTupleIter i1 t1 i ∧ h.IsTuple t1 xs) ∧ (h.IsTupleIter i2 t2 i ∧ h.IsTuple t2 ys) ∧
      ((IsZip h z TI TO .none ∧ ∃ a b, IsTupOf2 h TO a b) ∨ ∃ T f oT, IsZipHeld h z TI TO T f ∧ h.get? T = some oT ∧ T ≠ z ∧ T ≠ i1 ∧ T ≠ i2 ∧ T ≠ d)) s.heap s.toks ?_ ⟨hTI, m1, m2, .inl ⟨hz, a, b, hTO⟩⟩ (fun _ _ e => e) fun b hb => .inl hb)
    exact {
      off := fun hm => by
        simp only [List.mem_cons, List.not_mem_nil, or_false] at hm
        rcases hm with e | e | e | e
        · exact dz e
        · exact dTO e
        · exact di1 e
        · exact di2 e
      frame := fun i h1 h2 st hk => by
        obtain ⟨p, ⟨u1, u2⟩, ⟨v1, v2⟩, q⟩ := st
        refine ⟨hk _ _ (Ne.symm dTI) p, ⟨u1.at fun o e => hk _ o (Ne.symm di1) e, u2.at fun o e => hk _ o (Ne.symm dt1) e⟩, ⟨v1.at fun o e => hk _ o (Ne.symm di2) e, v2.at fun o e => hk _ o (Ne.symm dt2) e⟩, ?_⟩
        rcases q with ⟨q, a, b, r⟩ | ⟨T, f, oT, q, hT, r1, r2, r3, r4⟩
        · exact .inl ⟨hk _ _ (Ne.symm dz) q, a, b, hk _ _ (Ne.symm dTO) r⟩
        · exact .inr ⟨T, f, oT, hk _ _ (Ne.symm dz) q, hk _ _ r4 hT, r1, r2, r3, r4⟩
      item := fun i s1 Q1 E1 hi st hds hQ => by
        obtain ⟨p, u, v, q⟩ := st
        have lt : ∀ {c o}, s1.heap.get? c = some o → s1.heap.objs.size ≠ c := fun e => Nat.ne_of_gt (Heap.lt_size e)
        have n1 : s1.heap.objs.size ≠ i1 := let ⟨_, e, _⟩ := u.1; lt e
        have n2 : s1.heap.objs.size ≠ i2 := let ⟨_, e, _⟩ := v.1; lt e
        rcases q with ⟨q, a, b, r⟩ | ⟨T, f, oT, q, hT, r1, r2, r3, r4⟩
        · refine wpAny_pyNext_zipD2_item S D1 D2 q p r u v hi (hl ▸ hi) fun x y h' tk px py a1 a2 a3 a4 a5 a6 hk => ?_
          exact hQ s1.heap.objs.size x y h' tk ⟨px, py⟩ (.inl ⟨_, a5, rfl, _, rfl⟩) ⟨hk _ _ S.TIz S.TITO S.TIi1 S.TIi2 p, a3, a4, .inr ⟨s1.heap.objs.size, false, _, a1, a5, lt q, n1, n2, Nat.ne_of_gt hds⟩⟩
            fun c o hc e => let ⟨n1, n2, n3, n4⟩ := out4 hc; hk c o n1 n2 n3 n4 e
        · refine next_held S D1 D2 q hT p u v hi (hl ▸ hi) fun x y h' tk px py a1 a3 a4 a5 hk => ?_
          exact hQ s1.heap.objs.size x y h' tk ⟨px, py⟩ (.inl ⟨_, a5, rfl, _, rfl⟩) ⟨hk _ _ S.TIz S.TIi1 S.TIi2 p, a3, a4, .inr ⟨T, true, oT, a1, hk _ _ r1 r2 r3 hT, r1, r2, r3, r4⟩⟩
            fun c o hc e => let ⟨n1, _, n3, n4⟩ := out4 hc; hk c o n1 n3 n4 e
      done := fun s1 Q1 E1 st hQ => by
        obtain ⟨p, u, v, q⟩ := st
        rcases q with ⟨q, a, b, r⟩ | ⟨T, f, oT, q, hT, r1, r2, r3, r4⟩
        · exact wpAny_pyNext_zipD2_end S D1 D2 q p r u v (Nat.le_refl _) (Nat.le_of_eq hl) (.inl rfl) fun h' tk hk => hQ h' tk fun c o hc e => let ⟨n1, n2, n3, n4⟩ := out4 hc; hk c o n1 n2 n3 n4 e
        · exact next_held_end S D1 D2 q hT p u v (Nat.le_refl _) (Nat.le_of_eq hl) (.inl rfl) fun h' tk hk => hQ h' tk fun c o hc e => let ⟨n1, _, n3, n4⟩ := out4 hc; hk c o n1 n3 n4 e }
end
/-- dict(zip(a, b)): keys ks, values vs -/
def tDictZip (K : PySem.W.Frag) (t : TA) : TE := fun σ H Q => t σ H fun us H1 => ∃ (a b : Addr) (ks : List Key) (vs : List V), us = [.ref a, .ref b] ∧ SqT K H1 a (ks.map kV) ∧ SqT K H1 b vs ∧ ks.length = vs.length ∧
  ∀ p, H1 p = none → Q (.ref p) (upd H1 p (.dK (mergeK [] (ks.zip vs))))
theorem kv_zip : ∀ {ks : List Key} {vs : List V} {us : List Value}, Vals vs us → KV (ks.zip vs) (ks.zip us)
  | [], _, _, _ => .nil
  | _ :: _, _, _, .nil => .nil
  | k :: ks, _, _, .cons h t => .cons ⟨rfl, h⟩ (kv_zip t)
theorem pe_dictZip {X : Cx} {e e2 : Expr} {t : TA} {p p2 pos pos2 : Pos} (hcalm : X.calm = true) (hg : Gl X "dict") (hm : X.mg "dict" = none) (hg2 : Gl X "zip") (hm2 : X.mg "zip" = none) (ha : PA X [e, e2] t)
    (tree : backTo pos (starEach [Expr.Call (.Name "zip" p2) [e, e2] [] pos2] X.env) = [(false, eval (Expr.Call (.Name "zip" p2) [e, e2] [] pos2) X.env)] := by rfl)
    (two : starEach [e, e2] X.env = (false, eval e X.env) :: starEach [e2] X.env := by rfl) (plain : (backTo pos2 (starEach [e2] X.env)).any (·.1) = false := by rfl) :
    PE X (.Call (.Name "dict" p) [.Call (.Name "zip" p2) [e, e2] [] pos2] [] pos) (tDictZip X.K t) := by
  refine ⟨fun pins s σ H Q I h => ?_⟩
  refine wpAny_Call_Name_kw (ld_blt I hg hm boot_dict (PyProof.Rows.callWith_type1 ?_ rfl rfl))
  rw [tree]
  refine Calls.spliced_cons (wpAny_Call_Name_kw (ld_blt I hg2 hm2 PyProof.Rows.boot_zip (PyProof.Rows.callWith_type1 (thn (ha.run pos2 pins s σ H _ I h) ?_) two plain)))
  rintro us s1 ⟨_, H1, I1, rel, a, b, ks, vs, rfl, sa, sb, l, q⟩
  obtain ⟨_, _, rfl, ra, rb⟩ := vals2 rel
  cases ra
  cases rb
  obtain ⟨xs, rx, at1, z1⟩ := I1.tuple sa
  obtain ⟨ys, ry, at2, z2⟩ := I1.tuple sb
  have lx := rx.length
  have ly := ry.length
  rw [List.length_map] at lx
  have lt1 : a < s1.heap.objs.size := at1.lt
  have lt2 : b < s1.heap.objs.size := at2.lt
  have sep := zip_sep2 (N := s1.heap.objs.size) (fp1 := [a]) (fp2 := [b]) (fun c hc => (List.mem_singleton.mp hc).symm ▸ lt1) (fun c hc => (List.mem_singleton.mp hc).symm ▸ lt2)
  refine zip_begins2 (begins_tuple a xs.toArray) (begins_tuple b ys.toArray) at1 at2 fun hp zi ti to_ i1 i2 sz old => Calls.spliced_nil ?_
  have p1 : hp.IsTuple a xs.toArray := let ⟨o, ho, r⟩ := at1; ⟨o, old _ _ ho, r⟩
  have p2 : hp.IsTuple b ys.toArray := let ⟨o, ho, r⟩ := at2; ⟨o, old _ _ ho, r⟩
  refine PySem.call_dict_pairs (s := { s1 with heap := hp }) (knd := mixKind X.prog X.w) (kvs := ks.zip ys) (pairs_zipT (prog := X.prog) (w := X.w) sep (Nat.ne_of_lt lt1) (Nat.ne_of_lt (Nat.lt_succ_of_lt lt2)) xs.toArray ys.toArray (by simp only [List.size_toArray]; omega))
    (I.ok.hd hcalm) ⟨zi, ti, ⟨_, _, to_⟩, ⟨⟨_, i1, rfl, rfl⟩, p1⟩, ⟨_, i2, rfl, rfl⟩, p2⟩ ⟨?_, fun i key v hr => ?_⟩ ?_ fun h' tk dd hk => ?_
  · rw [List.length_zip]
    simp only [List.size_toArray]
    omega
  · obtain ⟨e1, e2⟩ := hr
    have e1' : xs[i]? = some key := by simpa using e1
    have e2' : ys[i]? = some v := by simpa using e2
    have hi := (List.getElem?_eq_some_iff.mp e1').1
    obtain ⟨u, hu, ru⟩ := Vals.get (i := i) (x := kV ks[i]) rx (by rw [List.getElem?_map, List.getElem?_eq_getElem (by omega)]; rfl)
    rw [e1'] at hu
    cases hu
    exact ⟨ks[i], List.getElem?_zip_eq_some.mpr ⟨List.getElem?_eq_getElem _, e2'⟩, kV_is ru⟩
  · simp only [List.size_toArray]
    rw [← lx]
    have := z1
    rw [List.length_map] at this
    exact this
  · have old' : ∀ c o, s1.heap.get? c = some o → h'.get? c = some o := fun c o hc => by
      have lc := Heap.lt_size hc
      refine hk c o (fun hm => ?_) (old c o hc)
      simp only [List.mem_cons, List.not_mem_nil, or_false] at hm
      rcases hm with e | e | e | e <;> (rw [e] at lc; exact absurd lc (Nat.not_lt.mpr (by first | exact Nat.le_refl _ | exact Nat.le_add_right _ _)))
    have lm : (s1.heap.objs.size + 5 == sysModules) = false := beq_eq_false_iff_ne.mpr (Nat.ne_of_gt (Nat.lt_of_lt_of_le I1.big (Nat.le_add_right _ _)))
    have sz' : hp.objs.size = s1.heap.objs.size + 5 := sz
    have hlen : (mergeK [] (ks.zip vs)).length ≤ sizeLine := by
      refine Nat.le_trans (length_mergeK _ []) ?_
      rw [List.length_nil, Nat.zero_add, List.length_zip, l, Nat.min_self]
      exact z2
    show EP X pins σ Q (.ref hp.objs.size) _
    have dd' : h'.DictOf (mixKind X.prog X.w) hp.objs.size (merged [] (ks.zip ys)) := dd
    rw [sz'] at dd' ⊢
    exact ⟨.ref (s1.heap.objs.size + 5), _, I1.laid (t' := tk) old' (Nat.le_add_right _ _) (show ObjOk X.prog X.w _ _ _ (.dK (mergeK [] (ks.zip vs))) from ⟨hlen, lm, merged [] (ks.zip ys), KV.merge (kv_zip ry) .nil, dd'⟩), rfl, q _ (I1.hok.fresh (Nat.le_add_right _ _))⟩
end RM

set_option Elab.async false
set_option linter.all false
set_option maxRecDepth 100000
set_option maxHeartbeats 2000000
namespace RM
open PySem PySem.Spec PyProof.Rows L2
section
variable {P : Program} {w : World} {K : PySem.W.Frag} {mg : Str → Option Value} {base : Heap}
/-! ### an own exception with one field -/
/-- its __init__: the field holds the argument -/
def spExo (C : Addr) (f : Str) : Sp := fun vs H Q _ => match vs with
  | [x, v] => ∃ a, x = .ref a ∧ H a = some (exo a C none) ∧ ∀ dx, H dx = none → dx ≠ a → Q .non (upd (upd H dx (exd dx [(f, v)])) a (exo a C (some dx)))
  | _ => False
theorem exo_0 {qual x : Str} {C : Addr} {k : Nat} {sp : Sp} {st : Stmt} {f : Addr} {N ps : List Str} (F : ∃ fd, FunD K "__init__" qual (defArgs st) (defBody st) (defScope st) [] [] f fd) (T : OexC K C) (M : Meth K C "__init__" f) (hm : mg x = some (.ref C)) (S : FnScope N ps (defScope st))
    (hb : ∀ (kV doc pm : Value) (an : Option Addr) (cdv ct : Value) (us : List Value), us.length = ps.length → bindArgs (PySem.W.fnOf "__init__" qual (defArgs st) (defBody st) (defScope st) .none kV doc pm an cdv ct) ⟨us, []⟩ = pure (ps.zip us))
    (len : ∀ vs H Q E, sp vs H Q E → vs.length = ps.length) (h : Body0 P w K mg base N qual st f k sp) : Exo P w K mg base (k + 1) x C sp :=
  let ⟨fd, F⟩ := F
  ⟨f, fd, ps, T, M, fn_0 F S len h, hm, F.bindsN hb⟩
/-- raise C(v): what is to be shown -/
theorem raise1 {C : Addr} {f : Str} {v : V} {H : Hp} {Q : XK} (q : ∀ d H', H d = none → Same H H' → H' d = some (.xd [(f, v)]) → Q (.ref C) (some d) H') :
    [v].length ≤ 1000 ∧ ∀ a, H a = none → spExo C f (.ref a :: ([v] ++ [])) (upd H a (exo a C none))
      (fun u H2 => u = .non ∧ ∃ (d : Addr) (fs : List (Str × V)), H2 a = some (exo a C (some d)) ∧ H2 d = some (exd d fs) ∧ H d = none ∧ Q (.ref C) (some d) (upd (L2.del H2 a) d (.xd fs))) (fun _ _ _ => False) := by
  refine ⟨by show 1 ≤ 1000; omega, fun a ha => ⟨a, rfl, upd_same, fun dx h1 h2 => ⟨rfl, dx, [(f, v)], upd_same, ?_, ?_, ?_⟩⟩⟩
  · rw [upd_ne h2, upd_same]
  · rw [upd_ne h2] at h1; exact h1
  · have hd : H dx = none := by rw [upd_ne h2] at h1; exact h1
    refine q dx _ hd (fun b o hb => ?_) upd_same
    have n1 : b ≠ a := ne_of_none hb ha
    have n2 : b ≠ dx := ne_of_none hb hd
    rw [upd_ne n2, L2.del_ne n1, upd_ne n1, upd_ne n2, upd_ne n1]
    exact hb
end
/-- all but a is as it was -/
def Off (a : Addr) (H H' : Hp) : Prop := ∀ b u, b ≠ a → H b = some u → H' b = some u
/-! ### what is raised while a thing is locked: it is unlocked on the way out -/
def WUnl (X : Cx) (W : WX) : WX := fun cls dx σ H => ∃ d od u, H d = some (.frz od u) ∧ (∀ o' u', X.H_0 d ≠ some (.frz o' u')) ∧ W cls dx σ (upd H d u)
theorem takes_unl {X : Cx} {W : WX} (tk : Takes X W) : Takes X (WUnl X W) := by
  rintro u s' ⟨a, B, sI, pins, σ, H, cls, dx, e, I, nb, up, sky, na, os, ag, d, od, v, hd, hn, w⟩
  refine tk u s' ⟨a, B, sI, pins, σ, upd H d v, cls, dx, e, I.unlock hd hn, nb, up, sky, ?_, os, ag, w⟩
  rw [upd_ne fun z => by rw [z, hd] at na; cases na]
  exact na
theorem raise1U {X : Cx} {W : WX} {σ : L2.St} {C : Addr} {f : Str} {v : V} {H : Hp} (q : ∀ d H', H d = none → Same H H' → H' d = some (.xd [(f, v)]) → WUnl X W (.ref C) (some d) σ H') :
    [v].length ≤ 1000 ∧ ∀ a, H a = none → spExo C f (.ref a :: ([v] ++ [])) (upd H a (exo a C none))
      (fun u H2 => u = .non ∧ ∃ (d : Addr) (fs : List (Str × V)), H2 a = some (exo a C (some d)) ∧ H2 d = some (exd d fs) ∧ H d = none ∧ WUnl X W (.ref C) (some d) σ (upd (L2.del H2 a) d (.xd fs))) (fun _ _ _ => False) := raise1 (Q := fun cls d H' => WUnl X W cls d σ H') q
end RM

set_option Elab.async false
set_option linter.all false
set_option maxRecDepth 100000
set_option maxHeartbeats 2000000
namespace RM
open PySem PySem.Spec PyProof.Rows L2
/-- the first word of g that m lacks -/
def lack (m g : WM) : Option Str := (wKeys g).find? fun k => decide (k ∉ wKeys m)
theorem lack_none {m g : WM} (h : lack m g = none) : ∀ k ∈ wKeys g, k ∈ wKeys m := fun k hk => by
  have := List.find?_eq_none.mp h k hk
  simpa using this
theorem paired_at {α β : Type} {F : α → β → Prop} : ∀ {l : List α} {m : List β}, Paired F l m → ∀ {i : Nat} {x : α}, l[i]? = some x → ∃ y, m[i]? = some y ∧ F x y
  | _, _, .nil, i, x, h => by simp at h
  | _, _, .cons h t, 0, x, e => by
    obtain rfl : _ = x := Option.some.inj e
    exact ⟨_, rfl, h⟩
  | _, _, .cons h t, i + 1, x, e => paired_at t (i := i) (by simpa using e)
theorem lack_keys {m m' g : WM} (h : wKeys m = wKeys m') : lack m g = lack m' g := by unfold lack; rw [h]
theorem first_none {m : WM} {cs : List WM} (h : ∀ (i : Nat) (g : WM), cs[i]? = some g → lack m g = none) : cs.findSome? (lack m) = none := List.findSome?_eq_none_iff.mpr fun g hg => by
  obtain ⟨i, hi⟩ := List.getElem?_of_mem hg
  exact h i g hi
theorem first_some {m : WM} {cs : List WM} {i : Nat} {g : WM} {k : Str} (hi : cs[i]? = some g) (hk : lack m g = some k) (h : ∀ (j : Nat) (g' : WM), j < i → cs[j]? = some g' → lack m g' = none) : cs.findSome? (lack m) = some k := by
  have il := (List.getElem?_eq_some_iff.mp hi).1
  have e : cs = cs.take i ++ g :: cs.drop (i + 1) := by
    have := List.take_append_drop (i + 1) cs
    rw [List.take_add_one, hi] at this
    rw [List.append_assoc] at this
    exact this.symm
  rw [e, List.findSome?_append, List.findSome?_eq_none_iff.mpr, List.findSome?_cons, hk]
  · rfl
  · intro g' hg'
    obtain ⟨j, hj⟩ := List.getElem?_of_mem hg'
    have jl := (List.getElem?_eq_some_iff.mp hj).1
    rw [List.length_take] at jl
    rw [List.getElem?_take, if_pos (by omega)] at hj
    exact h j g' (by omega) hj
theorem paired_take {α β : Type} {F : α → β → Prop} : ∀ {l : List α} {m : List β}, Paired F l m → ∀ k, Paired F (l.take k) (m.take k)
  | _, _, .nil, k => by rw [List.take_nil, List.take_nil]; exact .nil
  | _, _, .cons h t, 0 => .nil
  | _, _, .cons h t, k + 1 => .cons h (paired_take t k)
theorem paired_drop {α β : Type} {F : α → β → Prop} : ∀ {l : List α} {m : List β}, Paired F l m → ∀ k, Paired F (l.drop k) (m.drop k)
  | _, _, .nil, k => by rw [List.drop_nil, List.drop_nil]; exact .nil
  | _, _, .cons h t, 0 => .cons h t
  | _, _, .cons h t, k + 1 => paired_drop t k
theorem paired_app {α β : Type} {F : α → β → Prop} : ∀ {l l2 : List α} {m m2 : List β}, Paired F l m → Paired F l2 m2 → Paired F (l ++ l2) (m ++ m2)
  | _, _, _, _, .nil, h => h
  | _, _, _, _, .cons h t, g => .cons h (paired_app t g)
theorem paired_mem {α β : Type} {F : α → β → Prop} : ∀ {l : List α} {m : List β}, Paired F l m → ∀ y ∈ m, ∃ x ∈ l, F x y
  | _, _, .cons (a := x) h t, y, hy => by
    rcases List.mem_cons.mp hy with rfl | hy
    · exact ⟨x, List.mem_cons_self, h⟩
    · obtain ⟨z, hz, hf⟩ := paired_mem t y hy
      exact ⟨z, List.mem_cons_of_mem _ hz, hf⟩
theorem paired_mem' {α β : Type} {F : α → β → Prop} : ∀ {l : List α} {m : List β}, Paired F l m → ∀ x ∈ l, ∃ y ∈ m, F x y
  | _, _, .cons (b := y) h t, x, hx => by
    rcases List.mem_cons.mp hx with rfl | hx
    · exact ⟨y, List.mem_cons_self, h⟩
    · obtain ⟨z, hz, hf⟩ := paired_mem' t x hx
      exact ⟨z, List.mem_cons_of_mem _ hz, hf⟩
end RM

set_option Elab.async false
set_option linter.all false
set_option maxRecDepth 100000
set_option maxHeartbeats 2000000
namespace RM
open PySem PySem.Spec PyProof.Rows L2
section
variable {P : Program} {w : World} {K : PySem.W.Frag} {mg : Str → Option Value} {base : Heap}
def SurAt (K : PySem.W.Frag) (H : Hp) (a : Addr) (m : WM) : Prop := MapAt H (He.ga K "Surroundings") "now" a m ∧ 1 ≤ m.length ∧ m.length ≤ 4
theorem SurAt.keep {H H' : Hp} {a : Addr} {m : WM} (e : Same H H') (h : SurAt K H a m) : SurAt K H' a m := ⟨h.1.keep e, h.2⟩
theorem SurAt.ok {H : Hp} {a : Addr} {m : WM} (h : SurAt K H a m) : okM m ∧ sortedS (wKeys m) = true := let ⟨⟨_, _, _, _, a, b⟩, _⟩ := h; ⟨a, b⟩
/-! ### NoKey -/
theorem sc_NoKey_init : FnScope ["self", "key"] ["self", "key"] (defScope s_NoKey_init) := ⟨rfl, rfl, rfl, by decide +kernel, rfl, by decide +kernel, by decide +kernel⟩
theorem c_NoKey_init (T : Top w K mg) : Exo P w K mg base 1 "NoKey" (He.ga K "NoKey") (spExo (He.ga K "NoKey") "key") := by
  refine exo_0 (f_NoKey_init T) (oexB_ok (oex_NoKey T)) (me_NoKey_init T) (g_NoKey T) sc_NoKey_init (fun _ _ _ _ _ _ us hl => match us, hl with | [_, _], _ => rfl) (fun vs H Q E h => match vs, h with | [_, _], _ => rfl) (fun cdv A outer s H vs Q E hr h => ?_)
  match vs, h with
  | [x, v], h =>
  obtain ⟨a, rfl, ha, q⟩ := h
  refine ⟨_, (pss_one (ps_ost (pv 0) (pv 1))), ?_⟩
  exact ⟨_, rfl, _, rfl, a, _, rfl, oexB_ok (oex_NoKey T), na_NoKey_key T, .inl ⟨ha, fun dx h1 h2 => q dx h1 h2⟩⟩
/-! ### keys_of -/
def spKeysOf (K : PySem.W.Frag) : Sp := fun vs H Q _ => match vs with
  | [x] => ∃ a m, x = .ref a ∧ SurAt K H a m ∧ ∀ p H', Same H H' → H p = none → H' p = some (.tup (m.map fun q => V.str q.1)) → Q (.ref p) H'
  | _ => False
theorem sc_Surroundings_keys_of : FnScope ["self"] ["self"] (defScope s_Surroundings_keys_of) := ⟨rfl, rfl, rfl, by decide +kernel, rfl, by decide +kernel, by decide +kernel⟩
theorem c_Surroundings_keys_of (T : Top w K mg) : Met P w K mg base CX0 1 (He.ga K "Surroundings") "keys_of" (spKeysOf K) := by
  refine met_0 (f_Surroundings_keys_of T) (k_Surroundings T) (me_Surroundings_keys_of T) sc_Surroundings_keys_of (fun _ _ _ _ _ _ us hl => match us, hl with | [_], _ => rfl) (fun vs H Q E h => match vs, h with | [_], _ => rfl) (fun cdv A outer s H vs Q E hr h => ?_)
  match vs, h with
  | [x], h =>
  obtain ⟨a, m, rfl, ⟨⟨dx, p, ha, hp, hg, hs⟩, hl⟩, q⟩ := h
  refine ⟨_, (pss_one (ps_ret (pct (z_tuple T) (call_tupleD rfl) boot_tuple (pa_cons (pe_fld (pv 0) rfl) pa_nil)))), ?_⟩
  refine ⟨_, rfl, a, _, dx, _, _, rfl, ha, k_Surroundings T, na_Surroundings_now T, rfl, p, mK m, rfl, .of hp, fun t ht => q t _ (smNew1 ht _) ht ?_⟩
  rw [upd_same]
  unfold mK
  rw [List.map_map]
  rfl
/-! ### changed -/
def spChanged (K : PySem.W.Frag) : Sp := fun vs H Q E => match vs with
  | [x, y] => ∃ b c m g, x = .ref b ∧ y = .ref c ∧ H b = some (.dK (mK m)) ∧ okM m ∧ m.length ≤ 4 ∧ ChgAt K H c g ∧
    (lack m g = none → ∀ p H', Same H H' → H p = none → H' p = some (.dK (mK (wOver m g))) → Q (.ref p) H') ∧
    (∀ k, lack m g = some k → ∀ d H', Same H H' → H' d = some (.xd [("key", .str k)]) → E (.ref (He.ga K "NoKey")) (some d) H')
  | _ => False
theorem sc_changed : FnScope ["values", "change", "key"] ["values", "change"] (defScope s_changed) := ⟨rfl, rfl, rfl, by decide +kernel, rfl, by decide +kernel, by decide +kernel⟩
theorem c_changed (T : Top w K mg) : Cal P w K mg base (L2.CX P w) 3 "changed" (spChanged K) := by
  refine cal_X (f_changed T) (g_changed T) sc_changed (fun _ _ _ _ _ _ us hl => match us, hl with | [_, _], _ => rfl) (fun vs H Q E h => match vs, h with | [_, _], _ => rfl) (fun cdv A outer s H vs Q E hr h => ?_)
  match vs, h with
  | [x, y], h =>
  obtain ⟨b, c, m, g, rfl, rfl, hb, okm, lm, ⟨⟨dx, p, hc, hp, okg, sg⟩, lg⟩, q, qE⟩ := h
  refine ⟨_, (pss_cons (ps_lock (ps_for (passes_of rfl) rfl (pi_keys (pe_fld (pv 1) rfl)) (pg_name (i := 2) sc_changed.nd rfl (Or.inl rfl))
      (pss_one (ps_if (pt_cmp (pc_dnotin (hu_of hr) (pv 2) (pv 0)))
      (pss_one (ps_raiseX (takes_unl (takes_of rfl rfl rfl rfl)) (c_NoKey_init T) hr (pa_cons (pv 2) pa_nil)))
      pss_nil))))
    (pss_one (ps_ret (pe_star2 (pv 0) (pe_fld (pv 1) rfl))))), ?_⟩
  have cp : c ≠ p := fun z => by rw [z, hp] at hc; cases hc
  refine ⟨p, .dK (mK g), hp, trivial, fun od => ?_⟩
  have hcL : (upd H p (.frz od (.dK (mK g)))) c = some (.ins (He.ga K "Change") dx [("given", .ref p)]) := by rw [upd_ne cp]; exact hc
  have lgK : (mK g).length = g.length := List.length_map ..
  refine ⟨_, rfl, c, _, dx, _, _, rfl, hcL, k_Change T, na_Change_given T, rfl, p, od, rfl, .inl ⟨mK g, upd_same, for_it walk_keys (fun i σ H' => H' = upd H p (.frz od (.dK (mK g))) ∧ (∀ k ∈ wKeys (g.take i), k ∈ wKeys m) ∧ ∃ v, σ = [some (.ref b), some (.ref c), v])
    ⟨rfl, fun k hk => by simp [wKeys] at hk, _, rfl⟩ (fun i σ H' _ h => by rw [h.1]; exact upd_same) ?_ ?_⟩⟩
  · rintro i x σ H1 H2 hi ⟨rfl, hk, v, rfl⟩ ⟨rfl, k, v2, hkv, rfl⟩
    obtain ⟨z, hz, rfl, rfl⟩ := mK_get hkv
    have tk : wKeys (g.take (i + 1)) = wKeys (g.take i) ++ [z.1] := by
      unfold wKeys
      rw [List.take_add_one, hz, List.map_append]
      rfl
    refine ⟨_, rfl, _, rfl, b, _, rfl, .inl ⟨mK m, .inr z.1, rd_lock hb hp, rfl, rfl⟩, _, rfl, ?_⟩
    rw [valV_get]
    by_cases hm : z.1 ∈ wKeys m
    · refine ifF (by
        cases e : wGet m z.1 with
        | none => exact absurd hm (wGet_none.mp e)
        | some n => rfl) ?_
      refine ⟨rfl, fun k hk' => ?_, _, rfl⟩
      rw [tk] at hk'
      rcases List.mem_append.mp hk' with h | h
      · exact hk k h
      · rw [List.mem_singleton.mp h]
        exact hm
    · refine ifT (by rw [wGet_none.mpr hm]; rfl) ?_
      refine ⟨_, rfl, ?_⟩
      refine raise1U fun d H' nd e hd => ?_
      have np : d ≠ p := fun z => by rw [z, upd_same] at nd; cases nd
      refine ⟨p, od, .dK (mK g), e _ _ upd_same, fun o' u' z => ?_, qE z.1 ?_ d _ (same_back hp e) (by rw [upd_ne np]; exact hd)⟩
      · have z' : H p = some (.frz o' u') := z
        rw [hp] at z'
        cases z'
      · unfold lack
        have il := (List.getElem?_eq_some_iff.mp hz).1
        have e2 : wKeys g = wKeys (g.take i) ++ z.1 :: wKeys (g.drop (i + 1)) := by
          have := List.take_append_drop (i + 1) g
          conv => lhs; rw [← this]
          unfold wKeys at tk ⊢
          rw [List.map_append, tk, List.append_assoc]
          rfl
        rw [e2, List.find?_append, List.find?_eq_none.mpr (fun k hk' => by simpa using hk k hk'), List.find?_cons_of_pos (by simpa using hm)]
        rfl
  · rintro σ H1 ⟨rfl, hk, v, rfl⟩
    refine ⟨upd_same, ?_⟩
    rw [upd_back hp]
    rw [lgK, List.take_length] at hk
    have nl : lack m g = none := List.find?_eq_none.mpr fun k hk' => by simpa using hk k hk'
    refine fun r nr => ?_
    have rb : b ≠ r := ne_of_none hb nr
    have rc : c ≠ r := ne_of_none hc nr
    have rp : p ≠ r := ne_of_none hp nr
    refine ⟨_, rfl, b, mK m, rfl, rb, upd_same, .of (by rw [upd_ne rb]; exact hb), ?_⟩
    refine ⟨_, rfl, c, _, dx, _, _, rfl, by rw [upd_ne rc, upd_ne rc]; exact hc, k_Change T, na_Change_given T, rfl, ?_⟩
    have e1 : mergeK [] (mK m) = mK m := by
      have := mergeK_w [] m
      rw [wOver_nil okm.2] at this
      exact this
    refine ⟨p, mK g, mK m, rfl, rp, by rw [upd_same, e1], .of (by rw [upd_ne rp, upd_ne rp]; exact hp), ?_, ?_⟩
    · rw [lgK]
      show (m.map _).length + _ ≤ _
      rw [List.length_map]
      exact Nat.le_of_lt (small1000 (by omega))
    · rw [mergeK_w]
      refine q nl r _ (fun a u ha => ?_) nr upd_same
      have := ne_of_none ha nr
      rw [upd_ne this, upd_ne this, upd_ne this]
      exact ha
/-! ### Surroundings + Change -/
theorem sorted_over {m g : WM} (s : sortedS (wKeys m) = true) (h : ∀ k ∈ wKeys g, k ∈ wKeys m) : sortedS (wKeys (wOver m g)) = true := by rw [wKeys_over h]; exact s
theorem len_keys {m g : WM} (h : wKeys m = wKeys g) : m.length = g.length := by
  have := congrArg List.length h
  unfold wKeys at this
  rwa [List.length_map, List.length_map] at this
def spAddS (K : PySem.W.Frag) : Sp := fun vs H Q E => match vs with
  | [x, y] => ∃ a c m g, x = .ref a ∧ y = .ref c ∧ SurAt K H a m ∧ ChgAt K H c g ∧
    (lack m g = none → ∀ p H', Same H H' → H p = none → SurAt K H' p (wOver m g) → Q (.ref p) H') ∧
    (∀ k, lack m g = some k → ∀ d H', Same H H' → H' d = some (.xd [("key", .str k)]) → E (.ref (He.ga K "NoKey")) (some d) H')
  | _ => False
theorem sc_Surroundings_add : FnScope ["self", "change"] ["self", "change"] (defScope s_Surroundings_add) := ⟨rfl, rfl, rfl, by decide +kernel, rfl, by decide +kernel, by decide +kernel⟩
theorem o_Surroundings_add (T : Top w K mg) : OwnX P w K mg base 6 (He.ga K "Surroundings") "__add__" (spAddS K) := by
  refine own_X (f_Surroundings_add T) (spc_Surroundings_add T) sc_Surroundings_add (fun _ _ _ _ _ _ us hl => match us, hl with | [_, _], _ => rfl) (fun vs H Q E h => match vs, h with | [_, _], _ => rfl) (fun cdv A outer s H vs Q E hr h => ?_)
  match vs, h with
  | [x, y], h =>
  obtain ⟨a, c, m, g, rfl, rfl, sa, sc, q, qE⟩ := h
  obtain ⟨⟨dx, p, ha, hp, okm, sm⟩, l1, l4⟩ := id sa
  obtain ⟨⟨dy, p2, hc, hp2, okg, sg⟩, lg⟩ := id sc
  refine ⟨_, (pss_cons (ps_if (pt_not (pt_val (pcb (z_isinstance T) call_isi boot_isinstance (pa_cons (pv 1) (pa_cons (pglR (g_Change T)) pa_nil)))))
      (pss_one ps_never)
      pss_nil)
    (pss_one (ps_ret (pmk (c_Surroundings_init T) hr (pa_cons (pcX (takes_of rfl rfl rfl rfl) (c_changed T) hr (pa_cons (pe_fld (pv 0) rfl) (pa_cons (pv 1) pa_nil))) pa_nil))))), ?_⟩
  refine ⟨_, rfl, _, _, _, _, true, rfl, .own _, .base (insB_ty (ins_Change T) (k_Change T) hc), kitC_ok (kit_Change_Change T), ?_⟩
  refine ⟨_, rfl, ifF rfl ?_⟩
  refine ⟨_, rfl, a, _, dx, _, _, rfl, ha, k_Surroundings T, na_Surroundings_now T, rfl, _, rfl, p, c, m, g, rfl, rfl, hp, okm, l4, sc, fun nl r H1 e1 nr hr1 => ?_, qE⟩
  intro x dx2 hx hdx hne
  have kk := wKeys_over (lack_none nl)
  have ll := len_keys kk
  have mI := mk_in (C := He.ga K "Surroundings") hx hdx hne
  refine ⟨x, dx2, r, wOver m g, rfl, rfl, upd_same, mI _ _ hr1, okM_over okm okg.1, by rw [ll]; exact l1, by rw [ll]; exact l4, fun H' m2 off mp pm => ⟨rfl, ?_⟩⟩
  have e2 : m2 = wOver m g := by
    obtain ⟨_, _, _, _, _, s2⟩ := id mp
    exact sort_one pm (nodup_over okm.2 g) (sorted_over sm (lack_none nl)) s2
  subst e2
  refine q nl x H' (e1.trans (mk_sm hx hdx off)) (e1.free hx) ⟨mp, by rw [ll]; exact l1, by rw [ll]; exact l4⟩
end
end RM

set_option Elab.async false
set_option linter.all false
set_option maxRecDepth 100000
set_option maxHeartbeats 2000000
/-! states that changes lead to -/
namespace RM
open PySem PySem.Spec PyProof.Rows L2
/-- the values behind a change -/
def stepS (ks : List Str) (g : WM) (vs : List Int) : List Int := (ks.zip vs).map fun q => (wGet g q.1).getD q.2
theorem stepS_len {ks : List Str} {g : WM} {vs : List Int} (h : vs.length = ks.length) : (stepS ks g vs).length = ks.length := by
  unfold stepS
  rw [List.length_map, List.length_zip]
  omega
theorem zip_keys {ks : List Str} {vs : List Int} (h : vs.length = ks.length) : wKeys (ks.zip vs) = ks := by
  unfold wKeys
  exact List.map_fst_zip (by omega)
theorem zip_vals {ks : List Str} {vs : List Int} (h : vs.length = ks.length) : wVals (ks.zip vs) = vs := by
  unfold wVals
  exact List.map_snd_zip (by omega)
theorem zip_self (m : WM) : (wKeys m).zip (wVals m) = m := by
  induction m with
  | nil => rfl
  | cons q r ih =>
    show (q.1, q.2) :: (wKeys r).zip (wVals r) = _
    rw [ih]
theorem vals_over {ks : List Str} {vs : List Int} {g : WM} (hn : ks.Nodup) (hl : vs.length = ks.length) (gn : (wKeys g).Nodup) (sub : ∀ k ∈ wKeys g, k ∈ ks) : wVals (wOver (ks.zip vs) g) = stepS ks g vs := by
  have kz := zip_keys hl
  have n0 : (wKeys (ks.zip vs)).Nodup := by rw [kz]; exact hn
  have kk : wKeys (wOver (ks.zip vs) g) = ks := by rw [wKeys_over (by rw [kz]; exact sub), kz]
  have e := w_ext (nodup_over n0 g)
  rw [kk] at e
  rw [e]
  unfold wVals stepS
  rw [List.map_map]
  have key : ∀ l : WM, (∀ q ∈ l, q ∈ ks.zip vs) → (wKeys l).map (fun k => (wGet (wOver (ks.zip vs) g) k).getD 0) = l.map fun q => (wGet g q.1).getD q.2 := by
    intro l
    induction l with
    | nil => intro _; rfl
    | cons q r ih =>
      intro h
      have hq := h q List.mem_cons_self
      show (wGet (wOver (ks.zip vs) g) q.1).getD 0 :: _ = _
      rw [wGet_over gn, wGet_mem n0 hq]
      show ((wGet g q.1).or (some q.2)).getD 0 :: _ = (wGet g q.1).getD q.2 :: _
      have : ((wGet g q.1).or (some q.2)).getD 0 = (wGet g q.1).getD q.2 := by cases wGet g q.1 <;> rfl
      rw [this]
      exact congrArg _ (ih fun x hx => h x (List.mem_cons_of_mem _ hx))
  have := key (ks.zip vs) fun _ h => h
  rw [kz] at this
  exact this
/-- what the changes add, from one state on -/
def grow (ks : List Str) (cs : List WM) (l : List (List Int)) (v : List Int) : List (List Int) := cs.foldl (fun l g => if stepS ks g v ∈ l then l else l ++ [stepS ks g v]) l
/-- what is found behind n states -/
def lev (ks : List Str) (cs : List WM) (s : List Int) : Nat → List (List Int)
  | 0 => [s]
  | n + 1 => match (lev ks cs s n)[n]? with
    | some v => grow ks cs (lev ks cs s n) v
    | none => lev ks cs s n
section
variable {ks : List Str} {cs : List WM} {s v : List Int} {l : List (List Int)} {n : Nat}
theorem grow_take {i : Nat} {g : WM} (h : cs[i]? = some g) : grow ks (cs.take (i + 1)) l v = if stepS ks g v ∈ grow ks (cs.take i) l v then grow ks (cs.take i) l v else grow ks (cs.take i) l v ++ [stepS ks g v] := by
  unfold grow
  rw [List.take_add_one, h, List.foldl_append]
  rfl
theorem grow_pre : ∃ t, grow ks cs l v = l ++ t := by
  induction cs generalizing l with
  | nil => exact ⟨[], (List.append_nil l).symm⟩
  | cons g r ih =>
    show ∃ t, grow ks r (if stepS ks g v ∈ l then l else l ++ [stepS ks g v]) v = l ++ t
    by_cases h : stepS ks g v ∈ l
    · rw [if_pos h]
      exact ih
    · rw [if_neg h]
      obtain ⟨t, e⟩ := ih (l := l ++ [stepS ks g v])
      exact ⟨stepS ks g v :: t, by rw [e, List.append_assoc]; rfl⟩
theorem grow_le : l.length ≤ (grow ks cs l v).length := by
  obtain ⟨t, e⟩ := grow_pre (ks := ks) (cs := cs) (l := l) (v := v)
  rw [e, List.length_append]
  omega
theorem grow_part (i : Nat) : (grow ks (cs.take i) l v).length ≤ (grow ks cs l v).length := by
  have : grow ks cs l v = grow ks (cs.drop i) (grow ks (cs.take i) l v) v := by
    unfold grow
    rw [← List.foldl_append, List.take_append_drop]
  rw [this]
  exact grow_le
theorem lev_pre : ∃ t, lev ks cs s (n + 1) = lev ks cs s n ++ t := by
  show ∃ t, (match (lev ks cs s n)[n]? with | some v => grow ks cs (lev ks cs s n) v | none => lev ks cs s n) = _
  cases (lev ks cs s n)[n]? with
  | none => exact ⟨[], (List.append_nil _).symm⟩
  | some v => exact grow_pre
theorem lev_le : (lev ks cs s n).length ≤ (lev ks cs s (n + 1)).length := by
  obtain ⟨t, e⟩ := lev_pre (ks := ks) (cs := cs) (s := s) (n := n)
  rw [e, List.length_append]
  omega
theorem lev_stop (h : (lev ks cs s n).length ≤ n) : ∀ k, lev ks cs s (n + k) = lev ks cs s n
  | 0 => rfl
  | k + 1 => by
    have ih := lev_stop h k
    show (match (lev ks cs s (n + k))[n + k]? with | some v => grow ks cs (lev ks cs s (n + k)) v | none => lev ks cs s (n + k)) = _
    rw [ih, List.getElem?_eq_none (by omega)]
theorem lev_mono {m : Nat} (h : n ≤ m) : (lev ks cs s n).length ≤ (lev ks cs s m).length := by
  obtain ⟨k, rfl⟩ : ∃ k, m = n + k := ⟨m - n, by omega⟩
  clear h
  induction k with
  | zero => exact Nat.le_refl _
  | succ k ih => exact Nat.le_trans ih lev_le
theorem lev_pos : 1 ≤ (lev ks cs s n).length := Nat.le_trans (Nat.le_refl 1) (lev_mono (n := 0) (Nat.zero_le n))
theorem grow_nodup (h : l.Nodup) : (grow ks cs l v).Nodup := by
  induction cs generalizing l with
  | nil => exact h
  | cons g r ih =>
    show (grow ks r (if stepS ks g v ∈ l then l else l ++ [stepS ks g v]) v).Nodup
    by_cases e : stepS ks g v ∈ l
    · rw [if_pos e]
      exact ih h
    · rw [if_neg e]
      refine ih (List.nodup_append.mpr ⟨h, by simp, fun x hx y hy z => ?_⟩)
      rw [List.mem_singleton.mp hy] at z
      exact e (z ▸ hx)
theorem lev_nodup : ∀ n, (lev ks cs s n).Nodup
  | 0 => by simp [lev]
  | n + 1 => by
    show (match (lev ks cs s n)[n]? with | some v => grow ks cs (lev ks cs s n) v | none => lev ks cs s n).Nodup
    cases (lev ks cs s n)[n]? with
    | none => exact lev_nodup n
    | some v => exact grow_nodup (lev_nodup n)
/-- what holds of the first state and behind each change holds of all -/
theorem grow_all {Pr : List Int → Prop} (hl : ∀ x ∈ l, Pr x) (hv : ∀ g ∈ cs, Pr (stepS ks g v)) : ∀ x ∈ grow ks cs l v, Pr x := by
  induction cs generalizing l with
  | nil => exact hl
  | cons g r ih =>
    refine ih (l := if stepS ks g v ∈ l then l else l ++ [stepS ks g v]) (fun x hx => ?_) fun g' hg' => hv g' (List.mem_cons_of_mem _ hg')
    by_cases e : stepS ks g v ∈ l
    · rw [if_pos e] at hx
      exact hl x hx
    · rw [if_neg e] at hx
      rcases List.mem_append.mp hx with h | h
      · exact hl x h
      · rw [List.mem_singleton.mp h]
        exact hv g List.mem_cons_self
theorem lev_all {Pr : List Int → Prop} (h0 : Pr s) (hs : ∀ g ∈ cs, ∀ x, Pr x → Pr (stepS ks g x)) : ∀ n, ∀ x ∈ lev ks cs s n, Pr x
  | 0, x, hx => by
    rw [show lev ks cs s 0 = [s] from rfl] at hx
    rw [List.mem_singleton.mp hx]
    exact h0
  | n + 1, x, hx => by
    have ih := lev_all h0 hs n
    have hx' : x ∈ (match (lev ks cs s n)[n]? with | some v => grow ks cs (lev ks cs s n) v | none => lev ks cs s n) := hx
    cases e : (lev ks cs s n)[n]? with
    | none => rw [e] at hx'; exact ih x hx'
    | some v =>
      rw [e] at hx'
      exact grow_all ih (fun g hg => hs g hg v (ih v (List.mem_of_getElem? e))) x hx'
/-- two searches that stop answer alike: one at 16, one at 100 -/
theorem lev_same {n m : Nat} (hn : (lev ks cs s n).length ≤ n) (hm : (lev ks cs s m).length ≤ m) : lev ks cs s n = lev ks cs s m := by
  rcases Nat.le_total n m with h | h
  · obtain ⟨k, rfl⟩ : ∃ k, m = n + k := ⟨m - n, by omega⟩
    exact (lev_stop hn k).symm
  · obtain ⟨k, rfl⟩ : ∃ k, n = m + k := ⟨n - m, by omega⟩
    exact lev_stop hm k
end
/-! ### states as data -/
def stD (s : List Int) : PyData := .tuple (s.map .int)
def stL (s : List Int) : PyData := .list (s.map .int)
theorem eqv_ints : ∀ a b : List Int, PyData.eqvAll (a.map .int) (b.map .int) = decide (a = b)
  | [], [] => rfl
  | [], _ :: _ => rfl
  | _ :: _, [] => rfl
  | x :: a, y :: b => by
    rw [List.map_cons, List.map_cons, PyData.eqvAll, eqv_ints a b]
    show (x == y && decide (a = b)) = decide (x :: a = y :: b)
    rw [Bool.eq_iff_iff, Bool.and_eq_true, beq_iff_eq, decide_eq_true_iff, decide_eq_true_iff, List.cons.injEq]
theorem any_st (l : List (List Int)) (s : List Int) : ((l.map stD).any fun z => PyData.eqv z (stD s)) = decide (s ∈ l) := by
  rw [Bool.eq_iff_iff, List.any_eq_true, decide_eq_true_iff]
  constructor
  · rintro ⟨z, hz, e⟩
    obtain ⟨x, hx, rfl⟩ := List.mem_map.mp hz
    have e' : PyData.eqvAll (x.map .int) (s.map .int) = true := e
    rw [eqv_ints] at e'
    rw [← of_decide_eq_true e']
    exact hx
  · intro h
    exact ⟨stD s, List.mem_map.mpr ⟨s, h, rfl⟩, by show PyData.eqvAll _ _ = true; rw [eqv_ints]; exact decide_eq_true rfl⟩
theorem any_sl (l : List (List Int)) (s : List Int) : ((l.map stL).any fun z => PyData.eqv z (stL s)) = decide (s ∈ l) := by
  rw [Bool.eq_iff_iff, List.any_eq_true, decide_eq_true_iff]
  constructor
  · rintro ⟨z, hz, e⟩
    obtain ⟨x, hx, rfl⟩ := List.mem_map.mp hz
    have e' : PyData.eqvAll (x.map .int) (s.map .int) = true := e
    rw [eqv_ints] at e'
    rw [← of_decide_eq_true e']
    exact hx
  · intro h
    exact ⟨stL s, List.mem_map.mpr ⟨s, h, rfl⟩, by show PyData.eqvAll _ _ = true; rw [eqv_ints]; exact decide_eq_true rfl⟩
theorem ints_lay : ∀ s : List Int, PyData.canLayAll0 (s.map .int) = true
  | [] => rfl
  | i :: r => by
    rw [List.map_cons, PyData.canLayAll0, ints_lay r]
    rfl
theorem ints_dep : ∀ s : List Int, PyData.depthAll (s.map .int) ≤ 1
  | [] => by simp [PyData.depthAll]
  | i :: r => by
    have := ints_dep r
    simp only [List.map_cons, PyData.depthAll, PyData.depth]
    omega
theorem st_dep (s : List Int) : (stD s).depth ≤ 2 := by
  show PyData.depthAll (s.map .int) + 1 ≤ 2
  have := ints_dep s
  omega
theorem sl_dep (s : List Int) : (stL s).depth ≤ 2 := by
  show PyData.depthAll (s.map .int) + 1 ≤ 2
  have := ints_dep s
  omega
theorem all_lay {f : List Int → PyData} (h : ∀ s, (f s).canLay0 = true) : ∀ l : List (List Int), PyData.canLayAll0 (l.map f) = true
  | [] => rfl
  | s :: r => by
    rw [List.map_cons, PyData.canLayAll0, all_lay h r, h s]
    rfl
theorem all_dep {f : List Int → PyData} (h : ∀ s, (f s).depth ≤ 2) : ∀ l : List (List Int), PyData.depthAll (l.map f) ≤ 2
  | [] => by simp [PyData.depthAll]
  | s :: r => by
    have := all_dep h r
    have := h s
    simp only [List.map_cons, PyData.depthAll]
    omega
theorem st_shaped (s : List Int) : SeqAt.shaped (stD s) = true := by
  unfold SeqAt.shaped
  rw [show (stD s).canLay0 = true from ints_lay s, decide_eq_true (by have := st_dep s; omega)]
  rfl
theorem sl_shaped (s : List Int) : SeqAt.shaped (stL s) = true := by
  unfold SeqAt.shaped
  rw [show (stL s).canLay0 = true from ints_lay s, decide_eq_true (by have := sl_dep s; omega)]
  rfl
theorem sts_shaped (l : List (List Int)) : SeqAt.shaped (.list (l.map stD)) = true := by
  unfold SeqAt.shaped
  rw [show (PyData.list (l.map stD)).canLay0 = true from all_lay (f := stD) (fun s => ints_lay s) l, decide_eq_true (by show PyData.depthAll _ + 1 ≤ _; have := all_dep st_dep l; omega)]
  rfl
theorem sls_shaped (l : List (List Int)) : SeqAt.shaped (.list (l.map stL)) = true := by
  unfold SeqAt.shaped
  rw [show (PyData.list (l.map stL)).canLay0 = true from all_lay (f := stL) (fun s => ints_lay s) l, decide_eq_true (by show PyData.depthAll _ + 1 ≤ _; have := all_dep sl_dep l; omega)]
  rfl
/-! ### one order alone -/
theorem code_inj {B : Int} : ∀ {a b : List Int}, a.length = b.length → _root_.TS.Bd B a → _root_.TS.Bd B b → _root_.TS.code B a = _root_.TS.code B b → a = b
  | [], [], _, _, _, _ => rfl
  | [], _ :: _, h, _, _, _ => by simp at h
  | _ :: _, [], h, _, _, _ => by simp at h
  | x :: a, y :: b, h, ha, hb, e => by
    have hl : a.length = b.length := by simpa using h
    have xy : x = y := by
      rcases Int.lt_trichotomy x y with z | z | z
      · have := _root_.TS.code_lt hl ha.tail hb.tail z
        omega
      · exact z
      · have := _root_.TS.code_lt hl.symm hb.tail ha.tail z
        omega
    subst xy
    have e' : x * B ^ a.length + _root_.TS.code B a = x * B ^ b.length + _root_.TS.code B b := e
    rw [hl] at e'
    rw [code_inj hl ha.tail hb.tail (by omega)]
theorem perm_one {d : Nat} {B : Int} : ∀ {l m : List (List Int)}, l.Perm m → l.Nodup → (∀ x ∈ l, x.length = d ∧ _root_.TS.Bd B x) → l.Pairwise (fun a b => _root_.TS.code B a ≤ _root_.TS.code B b) → m.Pairwise (fun a b => _root_.TS.code B a ≤ _root_.TS.code B b) → l = m
  | [], m, p, _, _, _, _ => by rw [List.nil_perm.mp p]
  | x :: l, [], p, _, _, _, _ => by simpa using p.length_eq
  | x :: l, y :: m, p, n, h, s1, s2 => by
    obtain ⟨a1, a2⟩ := List.pairwise_cons.mp s1
    obtain ⟨b1, b2⟩ := List.pairwise_cons.mp s2
    obtain ⟨c1, c2⟩ := List.nodup_cons.mp n
    have hx := h x List.mem_cons_self
    have hy := h y (p.mem_iff.mpr List.mem_cons_self)
    have le1 : _root_.TS.code B x ≤ _root_.TS.code B y := by
      rcases List.mem_cons.mp (p.mem_iff.mpr (List.mem_cons_self (a := y) (l := m))) with e | e
      · rw [e]; exact Int.le_refl _
      · exact a1 y e
    have le2 : _root_.TS.code B y ≤ _root_.TS.code B x := by
      rcases List.mem_cons.mp (p.mem_iff.mp (List.mem_cons_self (a := x) (l := l))) with e | e
      · rw [e]; exact Int.le_refl _
      · exact b1 x e
    have e : x = y := code_inj (hx.1.trans hy.1.symm) hx.2 hy.2 (Int.le_antisymm le1 le2)
    subst e
    rw [perm_one (List.perm_cons x |>.mp p) c2 (fun z hz => h z (List.mem_cons_of_mem _ hz)) a2 b2]
end RM

set_option Elab.async false
set_option linter.all false
set_option maxRecDepth 100000
set_option maxHeartbeats 4000000
namespace RM
open PySem PySem.Spec PyProof.Rows L2
theorem room65 {k : Nat} {A : Around} (hr : Room k A) : A.units + 65 < cLine := by have := hr.un; omega
theorem zip_mK (m : WM) (us : List Int) : (m.map fun q => (Sum.inr q.1 : Key)).zip (us.map V.int) = mK ((wKeys m).zip us) := by
  induction m generalizing us with
  | nil => rfl
  | cons q r ih =>
    cases us with
    | nil => rfl
    | cons u us =>
      exact congrArg (List.cons ((Sum.inr q.1 : Key), V.int u)) (ih us)
theorem merge_nil {m : WM} (h : (wKeys m).Nodup) : mergeK [] (mK m) = mK m := by
  have := mergeK_w [] m
  rw [wOver_nil h] at this
  exact this
theorem okM_zip {m : WM} {us : List Int} (h : okM m) (l : us.length = m.length) (hu : ∀ u ∈ us, isValue u = true) : okM ((wKeys m).zip us) := by
  refine ⟨fun q hq => ?_, ?_⟩
  · have h1 := List.of_mem_zip hq
    obtain ⟨p, hp, e⟩ := List.mem_map.mp h1.1
    exact ⟨by rw [← e]; exact (h.1 p hp).1, hu _ h1.2⟩
  · show (wKeys _).Nodup
    rw [zip_keys (by rw [l]; exact (List.length_map ..).symm)]
    exact h.2
section
variable {P : Program} {w : World} {K : PySem.W.Frag} {mg : Str → Option Value} {base : Heap}
theorem MapAt.updL {H : Hp} {C p : Addr} {f : Str} {a : Addr} {m : WM} {xs ys : List V} (hp : H p = some (.lst xs)) (h : MapAt H C f a m) : MapAt (upd H p (.lst ys)) C f a m := by
  obtain ⟨dx, q, h1, h2, h3⟩ := h
  refine ⟨dx, q, ?_, ?_, h3⟩
  · rw [upd_ne fun z => by rw [z, hp] at h1; cases h1]
    exact h1
  · rw [upd_ne fun z => by rw [z, hp] at h2; cases h2]
    exact h2
theorem SurAt.updL {H : Hp} {p : Addr} {a : Addr} {m : WM} {xs ys : List V} (hp : H p = some (.lst xs)) (h : SurAt K H a m) : SurAt K (upd H p (.lst ys)) a m := ⟨h.1.updL hp, h.2⟩
theorem dps_ints {H : Hp} : ∀ {s : List Int} {xs : List V}, DpAll K H xs (s.map .int) → xs = s.map V.int
  | [], _, h => DpAll.nil_inv h
  | i :: s, _, h => by
    obtain ⟨v, r, rfl, h1, h2⟩ := DpAll.cons_inv h
    rw [Dp.int_inv h1, dps_ints h2]
    rfl
theorem dp_st {H : Hp} {v : V} {s : List Int} (h : Dp K H v (stD s)) : ∃ t, v = .ref t ∧ SqT K H t (s.map V.int) := by
  obtain ⟨t, xs, rfl, h1, h2⟩ := Dp.tup_inv h
  rw [dps_ints h2] at h1
  exact ⟨t, rfl, h1⟩
theorem ints_dps {H : Hp} : ∀ s : List Int, DpAll K H (s.map V.int) (s.map .int)
  | [] => .nil
  | i :: s => .cons (.int i) (ints_dps s)
theorem st_dp {H : Hp} {t : Addr} {s : List Int} (h : SqT K H t (s.map V.int)) : Dp K H (.ref t) (stD s) := .tup h (ints_dps s)
theorem noL_st (s : List Int) : noL (stD s) = true := by
  show noLs (s.map .int) = true
  induction s with
  | nil => rfl
  | cons i r ih =>
    rw [List.map_cons, noLs, ih]
    rfl
theorem noLs_sts : ∀ l : List (List Int), noLs (l.map stD) = true
  | [] => rfl
  | s :: r => by rw [List.map_cons, noLs, noLs_sts r, noL_st s]; rfl
theorem MapAt.off {H H' : Hp} {C p : Addr} {f : Str} {a : Addr} {m : WM} {xs : List V} (hp : H p = some (.lst xs)) (o : Off p H H') (h : MapAt H C f a m) : MapAt H' C f a m := by
  obtain ⟨dx, q, h1, h2, h3⟩ := h
  exact ⟨dx, q, o _ _ (fun z => by rw [z, hp] at h1; cases h1) h1, o _ _ (fun z => by rw [z, hp] at h2; cases h2) h2, h3⟩
theorem SurAt.off {H H' : Hp} {p a : Addr} {m : WM} {xs : List V} (hp : H p = some (.lst xs)) (o : Off p H H') (h : SurAt K H a m) : SurAt K H' a m := ⟨h.1.off hp o, h.2⟩
theorem ChgAt.off {H H' : Hp} {p a : Addr} {m : WM} {xs : List V} (hp : H p = some (.lst xs)) (o : Off p H H') (h : ChgAt K H a m) : ChgAt K H' a m := ⟨h.1.off hp o, h.2⟩
theorem Off.refl (p : Addr) (H : Hp) : Off p H H := fun _ _ _ h => h
theorem Off.trans {p : Addr} {H H1 H2 : Hp} (a : Off p H H1) (b : Off p H1 H2) : Off p H H2 := fun c u n h => b c u n (a c u n h)
theorem off_sm {p : Addr} {H H' : Hp} (e : Same H H') : Off p H H' := fun b u _ h => e b u h
theorem off_upd {p : Addr} {H : Hp} {o : HO} : Off p H (upd H p o) := fun b u n h => by rw [upd_ne n]; exact h
theorem sqL_off {H H' : Hp} {p a : Addr} {xs : List V} (o : Off p H H') (ne : a ≠ p) (h : SqL K H a xs) : SqL K H' a xs := h.imp (Or.imp (o _ _ ne) fun ⟨q, at_⟩ => ⟨q, o _ _ ne at_⟩) id
theorem sqT_off {H H' : Hp} {p a : Addr} {xs : List V} (o : Off p H H') (ne : a ≠ p) (h : SqT K H a xs) : SqT K H' a xs := h.imp (Or.imp (o _ _ ne) fun ⟨q, at_⟩ => ⟨q, o _ _ ne at_⟩) id
/-- a sequence is walked while the thing at p is changed -/
theorem seqA_off {H : Hp} {a p : Addr} {xs : List V} {R : It → Hp → Prop} (h : SqA K H a xs) (ne : a ≠ p) (q : ∀ J, Walk J xs.length (fun H' => Off p H H') (YAt xs) → R J H) : SeqG K (.ref a) H R := by
  unfold SeqG
  rcases h with h | h
  · exact ⟨a, rfl, .inl ⟨xs, h, q _ (walk_list.mono (fun H' e => sqL_off e ne h) fun i H x H' _ _ y => y)⟩⟩
  · exact ⟨a, rfl, .inr ⟨xs, h, q _ (walk_tup.mono (fun H' e => sqT_off e ne h) fun i H x H' _ _ y => y)⟩⟩
end
end RM

set_option Elab.async false
set_option linter.all false
set_option maxRecDepth 100000
set_option maxHeartbeats 4000000
namespace RM
open PySem PySem.Spec PyProof.Rows L2
section
variable {P : Program} {w : World} {K : PySem.W.Frag} {mg : Str → Option Value} {base : Heap}
/-! ### with_state -/
def spWith (K : PySem.W.Frag) : Sp := fun vs H Q _ => match vs with
  | [x, y] => ∃ a t m us, x = .ref a ∧ y = .ref t ∧ SurAt K H a m ∧ SqT K H t (us.map V.int) ∧ us.length = m.length ∧ (∀ u ∈ us, isValue u = true) ∧
    ∀ p H', Same H H' → H p = none → SurAt K H' p ((wKeys m).zip us) → Q (.ref p) H'
  | _ => False
theorem sc_with_state : FnScope ["surroundings", "state"] ["surroundings", "state"] (defScope s_with_state) := ⟨rfl, rfl, rfl, by decide +kernel, rfl, by decide +kernel, by decide +kernel⟩
theorem c_with_state (T : Top w K mg) : Cal P w K mg base CX0 6 "with_state" (spWith K) := by
  refine cal_0 (f_with_state T) (g_with_state T) sc_with_state (fun _ _ _ _ _ _ us hl => match us, hl with | [_, _], _ => rfl) (fun vs H Q E h => match vs, h with | [_, _], _ => rfl) (fun cdv A outer s H vs Q E hr h => ?_)
  match vs, h with
  | [x, y], h =>
  obtain ⟨a, t, m, us, rfl, rfl, sa, ht, hl, hu, q⟩ := h
  obtain ⟨⟨dx, p, ha, hp, okm, sm⟩, l1, l4⟩ := id sa
  refine ⟨_, (pss_one (ps_ret (pmk (c_Surroundings_init T) hr (pa_cons (pe_dictZip rfl (by rfl) (z_dict T) (by rfl) (z_zip T) (pa_cons (pmt0 (c_Surroundings_keys_of T) hr (pv 0)) (pa_cons (pv 1) pa_nil))) pa_nil)))), ?_⟩
  refine ⟨_, rfl, a, dx, _, rfl, ha, rfl, a, m, rfl, sa, fun k H1 e1 nk hk => ?_⟩
  have kl : us.length = (wKeys m).length := by rw [hl]; exact (List.length_map ..).symm
  have okz := okM_zip okm hl hu
  refine ⟨_, rfl, k, t, m.map fun q => (Sum.inr q.1 : Key), us.map V.int, rfl, SqT.of (by rw [hk, List.map_map]; rfl), smT e1 ht, by rw [List.length_map, List.length_map, hl], fun r nr => ?_⟩
  rw [zip_mK, merge_nil okz.2]
  intro x dx2 hx hdx hne
  have mI := mk_in (C := He.ga K "Surroundings") hx hdx hne
  have lz : ((wKeys m).zip us).length = m.length := by rw [List.length_zip, ← kl, Nat.min_self, hl]
  refine ⟨x, dx2, r, (wKeys m).zip us, rfl, rfl, upd_same, mI _ _ upd_same, okz, by rw [lz]; exact l1, by rw [lz]; exact l4, fun H' m2 off mp pm => ⟨rfl, ?_⟩⟩
  have s1 : Same H (upd H1 r (.dK (mK ((wKeys m).zip us)))) := smNew e1 nr _
  have e2 : m2 = (wKeys m).zip us := by
    obtain ⟨_, _, _, _, _, s2⟩ := id mp
    refine sort_one pm okz.2 (by rw [zip_keys kl]; exact sm) s2
  subst e2
  exact q x H' (s1.trans (mk_sm hx hdx off)) (s1.free hx) ⟨mp, by rw [lz]; exact l1, by rw [lz]; exact l4⟩
end
end RM

set_option Elab.async false
set_option linter.all false
set_option maxRecDepth 100000
set_option maxHeartbeats 8000000
namespace RM
open PySem PySem.Spec PyProof.Rows L2
theorem stepS_all {ks : List Str} {g : WM} {vs : List Int} {Pr : Int → Prop} (hg : ∀ q ∈ g, Pr q.2) (hv : ∀ u ∈ vs, Pr u) : ∀ u ∈ stepS ks g vs, Pr u := fun u hu => by
  unfold stepS at hu
  obtain ⟨q, hq, rfl⟩ := List.mem_map.mp hu
  cases e : wGet g q.1 with
  | none => exact hv _ (List.of_mem_zip hq).2
  | some n => exact hg _ (wGet_some e)
theorem perm_states {K : PySem.W.Frag} {H : Hp} {xs ys : List V} {l : List (List Int)} (p : ys.Perm xs) (h : DpAll K H xs (l.map stD)) : ∃ ss : List (List Int), ss.Perm l ∧ DpAll K H ys (ss.map stD) := by
  induction p generalizing l with
  | nil => exact ⟨l, List.Perm.refl _, h⟩
  | cons x p ih =>
    cases l with
    | nil => cases h
    | cons s r =>
      rw [List.map_cons] at h
      obtain ⟨v, r', e, h1, h2⟩ := DpAll.cons_inv h
      injection e with e1 e2
      subst e1 e2
      obtain ⟨ss, p2, h3⟩ := ih h2
      exact ⟨s :: ss, p2.cons s, .cons h1 h3⟩
  | swap x y zs =>
    cases l with
    | nil => cases h
    | cons s r =>
      rw [List.map_cons] at h
      obtain ⟨v, r', e, h1, h2⟩ := DpAll.cons_inv h
      injection e with e1 e2
      subst e1 e2
      cases r with
      | nil => cases h2
      | cons s2 r2 =>
        rw [List.map_cons] at h2
        obtain ⟨v2, r3, e, h3, h4⟩ := DpAll.cons_inv h2
        injection e with e1 e2
        subst e1 e2
        exact ⟨s2 :: s :: r2, List.Perm.swap _ _ _, .cons h3 (.cons h1 h4)⟩
  | trans p1 p2 ih1 ih2 =>
    obtain ⟨s1, q1, h1⟩ := ih2 h
    obtain ⟨s2, q2, h2⟩ := ih1 h1
    exact ⟨s2, q2.trans q1, h2⟩
theorem pw_states {K : PySem.W.Frag} {H : Hp} {B : Int} : ∀ {ys : List V} {ss : List (List Int)}, DpAll K H ys (ss.map stD) → ys.Pairwise (fun x y => ∀ n m, TupI K H x n → TupI K H y m → _root_.TS.code B n ≤ _root_.TS.code B m) → ss.Pairwise (fun a b => _root_.TS.code B a ≤ _root_.TS.code B b)
  | _, [], _, _ => .nil
  | _, s :: ss, h, p => by
    rw [List.map_cons] at h
    obtain ⟨v, r, rfl, h1, h2⟩ := DpAll.cons_inv h
    obtain ⟨p1, p2⟩ := List.pairwise_cons.mp p
    refine List.pairwise_cons.mpr ⟨fun b hb => ?_, pw_states h2 p2⟩
    obtain ⟨i, hi⟩ := List.getElem?_of_mem hb
    obtain ⟨u, hu, du⟩ := DpAll.get h2 (i := i) (d := stD b) (by rw [List.getElem?_map, hi]; rfl)
    obtain ⟨t1, e1, q1⟩ := dp_st h1
    obtain ⟨t2, e2, q2⟩ := dp_st du
    exact p1 u (List.mem_of_getElem? hu) s b ⟨t1, e1, q1⟩ ⟨t2, e2, q2⟩
section
variable {P : Program} {w : World} {K : PySem.W.Frag} {mg : Str → Option Value} {base : Heap}
abbrev levM (m : WM) (cs : List WM) (n : Nat) : List (List Int) := lev (wKeys m) cs (wVals m) n
def small99 (g : WM) : Prop := ∀ q ∈ g, 0 ≤ q.2 ∧ q.2 < 99
def spStates (K : PySem.W.Frag) : Sp := fun vs H Q E => match vs with
  | [x, y] => ∃ a l m cs cv, x = .ref a ∧ y = .ref l ∧ SurAt K H a m ∧ SqA K H l (cv.map V.ref) ∧ H l ≠ none ∧ Paired (fun c g => ChgAt K H c g) cv cs ∧ small99 m ∧ (∀ g ∈ cs, small99 g) ∧
    (∀ k, cs.findSome? (lack m) = some k → ∀ d H', Same H H' → H' d = some (.xd [("key", .str k)]) → E (.ref (He.ga K "NoKey")) (some d) H') ∧
    (cs.findSome? (lack m) = none → (∀ n, 16 < (levM m cs n).length → ∀ H', Same H H' → E (.ref (He.ga K "TooMany")) none H') ∧
      (∀ n, (levM m cs n).length ≤ n → (levM m cs n).length ≤ 16 → ∀ p H' ys (ss : List (List Int)), Same H H' → H p = none → H' p = some (.lst ys) → DpAll K H' ys (ss.map stD) → ss.Perm (levM m cs n) → ss.Pairwise (fun a b => _root_.TS.code 99 a ≤ _root_.TS.code 99 b) → Q (.ref p) H'))
  | _ => False
theorem chg_all {H H' : Hp} (e : Same H H') {cv : List Addr} {cs : List WM} (h : Paired (fun c g => ChgAt K H c g) cv cs) : Paired (fun c g => ChgAt K H' c g) cv cs := paired_mono h fun _ _ c => c.keep e
theorem sc_states_from : FnScope ["surroundings", "changes", "change", "found", "at", "place", "state"] ["surroundings", "changes"] (defScope s_states_from) := ⟨rfl, rfl, rfl, by decide +kernel, rfl, by decide +kernel, by decide +kernel⟩
theorem c_states_from (T : Top w K mg) : Cal P w K mg base (L2.CX P w) 8 "states_from" (spStates K) := by
  refine cal_X (f_states_from T) (g_states_from T) sc_states_from (fun _ _ _ _ _ _ us hl => match us, hl with | [_, _], _ => rfl) (fun vs H Q E h => match vs, h with | [_, _], _ => rfl) (fun cdv A outer s H vs Q E hr h => ?_)
  match vs, h with
  | [x, y], h =>
  obtain ⟨a, l, m, cs, cv, rfl, rfl, sa, hl, hln, hc, sm, sc, qN, qq⟩ := h
  obtain ⟨dd, hdd, edd⟩ : ∃ dd, 1 ≤ dd ∧ dd = m.length := ⟨m.length, sa.2.1, rfl⟩
  have lc : cv.length = cs.length := hc.length
  have okm := sa.ok.1
  have kl : (wKeys m).length = m.length := List.length_map ..
  have vl : (wVals m).length = m.length := List.length_map ..
  refine ⟨_, (pss_cons (ps_for (passes_of rfl) rfl (pi_seqA (pv 1)) (pg_name (i := 2) sc_states_from.nd rfl (Or.inl rfl))
      (pss_one (ps_expr (pe_op (op_addX (two_Surroundings_Change T) (o_Surroundings_add T) (passes_call (takes_of rfl rfl rfl rfl) (fun _ _ _ _ h => h)) hr) (pv 0) (pv 2)))))
    (pss_cons (ps_set (i := 3) sc_states_from.nd rfl (Or.inl rfl) (pe_lst (pa_cons (pmt0 (c_Surroundings_state T) hr (pv 0)) pa_nil)))
    (pss_cons (ps_set (i := 4) sc_states_from.nd rfl (Or.inl rfl) pe_int)
    (pss_cons (ps_while (passes_of rfl) (pt_cmpR op_lt (pv 4) (pcb (z_len T) call_len_seq boot_len (pa_cons (pv 3) pa_nil)) (nomark _))
      (pss_cons (ps_set (i := 5) sc_states_from.nd rfl (Or.inl rfl) (pc (c_with_state T) hr (pa_cons (pv 0) (pa_cons (pe_ix ix_list (pv 3) (pv 4) (fun _ _ => rfl)) pa_nil))))
    (pss_cons (ps_aug (i := 4) sc_states_from.nd rfl (Or.inl rfl) pe_int ip_add)
    (pss_one (ps_for (passes_of rfl) rfl (pi_seqA (pv 1)) (pg_name (i := 2) sc_states_from.nd rfl (Or.inl rfl))
      (pss_cons (ps_set (i := 6) sc_states_from.nd rfl (Or.inl rfl) (pmt0 (c_Surroundings_state T) hr (pe_op (op_addX (two_Surroundings_Change T) (o_Surroundings_add T) (passes_call (takes_of rfl rfl rfl rfl) (fun _ _ _ _ h => h)) hr) (pv 5) (pv 2))))
    (pss_one (ps_if (pt_cmpR (op_notInD (room65 hr)) (pv 6) (pv 3) rfl)
      (pss_cons (ps_expr (pe_bm PySem.F.plainAttrs_list PySem.F.slot_list_append PySem.F.type_list_append mt_append (pv 3) (pa_cons (pv 6) pa_nil)))
    (pss_one (ps_if (pt_cmpR op_gt (pcb (z_len T) call_len_seq boot_len (pa_cons (pv 3) pa_nil)) (pglI (i_MOST_steps T)) (nomark _))
      (pss_one (ps_raise rfl (takes_of rfl rfl rfl rfl) (pmk_exc0 (xc_TooMany T) (g_TooMany T))))
      pss_nil)))
      pss_nil))))))))
    (pss_one (ps_ret (pcb (z_sorted T) (cr_sortT (d := dd) (B := 99) hdd) boot_sorted (pa_cons (pv 3) pa_nil)))))))), ?_⟩
  -- the changes' keys
  refine ⟨_, rfl, seqA_of hl (Same.refl _) fun J wk => ?_⟩
  rw [List.length_map] at wk
  refine for_it wk (fun i σ H' => Same H H' ∧ (∀ j g, j < i → cs[j]? = some g → lack m g = none) ∧ ∃ v, σ = [some (.ref a), some (.ref l), v, none, none, none, none]) ⟨Same.refl _, fun j g hj => by omega, _, rfl⟩ (fun i σ H' _ h => h.1) ?_ ?_
  · rintro i x σ H1 H2 hi ⟨e1, nl, v, rfl⟩ ⟨rfl, hx⟩
    rw [List.getElem?_map] at hx
    obtain ⟨c, hcv, rfl⟩ := Option.map_eq_some_iff.mp hx
    obtain ⟨g, hg, cg⟩ := paired_at (chg_all e1 hc) hcv
    have sa1 := sa.keep e1
    obtain ⟨⟨dx, p, ha, _⟩, _⟩ := id sa1
    obtain ⟨⟨dy, p2, hc2, _⟩, _⟩ := id cg
    refine ⟨_, rfl, _, rfl, a, c, dx, dy, _, _, rfl, rfl, ha, hc2, a, c, m, g, rfl, rfl, sa1, cg, fun hn r H3 e3 nr _ => ?_, fun k hk d H3 e3 hd => qN k (first_some hg hk nl) d H3 (e1.trans e3) hd⟩
    refine ⟨e1.trans e3, fun j g' hj hg' => ?_, _, rfl⟩
    rcases Nat.lt_or_ge j i with h | h
    · exact nl j g' h hg'
    · obtain rfl : j = i := by omega
      rw [hg] at hg'
      cases hg'
      exact hn
  rintro σ H1 ⟨e1, nl, v0, rfl⟩
  have nl' : ∀ i g, cs[i]? = some g → lack m g = none := fun i g hg => nl i g (by rw [lc]; exact (List.getElem?_eq_some_iff.mp hg).1) hg
  obtain ⟨qM, qR⟩ := qq (first_none nl')
  have sub : ∀ g ∈ cs, ∀ k ∈ wKeys g, k ∈ wKeys m := fun g hg => by
    obtain ⟨i, hi⟩ := List.getElem?_of_mem hg
    exact lack_none (nl' i g hi)
  -- found
  have sa1 := sa.keep e1
  obtain ⟨⟨dx, p0, ha, hp0, _, _⟩, _⟩ := id sa1
  refine ⟨_, rfl, a, dx, _, rfl, ha, rfl, a, m, rfl, sa1.1, sa1.2.2, fun t H2 e2 ht => ?_⟩
  refine ⟨(by show 1 ≤ sizeLine; decide), fun p np => ?_⟩
  have ht2 : SqT K H2 t ((wVals m).map V.int) := SqT.of (by rw [ht]; unfold wVals; rw [List.map_map]; rfl)
  have np0 : H p = none := (e1.trans e2).free np
  -- what holds of all states
  have good : ∀ n, ∀ x ∈ levM m cs n, x.length = m.length ∧ ∀ u ∈ x, 0 ≤ u ∧ u < 99 := lev_all (Pr := fun x => x.length = m.length ∧ ∀ u ∈ x, 0 ≤ u ∧ u < 99)
    ⟨vl, fun u hu => by obtain ⟨q, hq, rfl⟩ := List.mem_map.mp hu; exact sm q hq⟩ fun g hg x hx => ⟨by rw [stepS_len (by rw [hx.1, kl]), kl], stepS_all (Pr := fun u => 0 ≤ u ∧ u < 99) (sc g hg) hx.2⟩
  refine ⟨fun me σ H' => ∃ n ys v2 v5 v6, me + n = 17 ∧ (levM m cs n).length ≤ 16 ∧ n ≤ (levM m cs n).length ∧ Same H H' ∧ H' p = some (.lst ys) ∧ DpAll K H' ys ((levM m cs n).map stD) ∧ σ = [some (.ref a), some (.ref l), v2, some (.ref p), some (.int n), v5, v6],
    ⟨17, 0, [.ref t], _, _, _, rfl, (by show 1 ≤ 16; omega), Nat.zero_le _, smOut (e1.trans e2) np0 _, upd_same, .cons (st_dp (smT (smNew1 np _) ht2)) .nil, rfl⟩, ?_⟩
  rintro me σ H3 ⟨n, ys, v2, v5, v6, eme, l16, nle, e3, hp3, dd3, rfl⟩
  have ly : ys.length = (levM m cs n).length := by rw [DpAll.len dd3, List.length_map]
  refine ⟨_, rfl, _, rfl, p, ys, rfl, .inl (SqL.of hp3), _, _, rfl, rfl, _, rfl, ?_⟩
  refine ifB (fun hlt => ?_) (fun hlt => ?_)
  · -- one more turn
    have hlt' : (n : Int) < (ys.length : Nat) := of_decide_eq_true hlt
    have nlt : n < (levM m cs n).length := by omega
    obtain ⟨s0, hs0⟩ : ∃ s0, (levM m cs n)[n]? = some s0 := ⟨_, List.getElem?_eq_getElem nlt⟩
    have lev1 : levM m cs (n + 1) = grow (wKeys m) cs (levM m cs n) s0 := by
      show (match (lev (wKeys m) cs (wVals m) n)[n]? with | some v => grow (wKeys m) cs (lev (wKeys m) cs (wVals m) n) v | none => lev (wKeys m) cs (wVals m) n) = _
      have : (lev (wKeys m) cs (wVals m) n)[n]? = some s0 := hs0
      rw [this]
    have gs := good n s0 (List.mem_of_getElem? hs0)
    obtain ⟨yv, hyv, dyv⟩ := DpAll.get dd3 (i := n) (d := stD s0) (by rw [List.getElem?_map, hs0]; rfl)
    obtain ⟨ts, rfl, hts⟩ := dp_st dyv
    refine ⟨fun σ H' => ∃ ys v2 v5 v6, (levM m cs (n + 1)).length ≤ 16 ∧ Same H H' ∧ H' p = some (.lst ys) ∧ DpAll K H' ys ((levM m cs (n + 1)).map stD) ∧ σ = [some (.ref a), some (.ref l), v2, some (.ref p), some (.int (n + 1 : Nat)), v5, v6], ?_, ?_⟩
    · rintro σ' H' ⟨ys, v2, v5, v6, h1, h2, h3, h4, h5⟩
      exact ⟨me - 1, by omega, n + 1, ys, v2, v5, v6, by omega, h1, Nat.le_trans nlt lev_le, h2, h3, h4, h5⟩
    -- place
    have sa3 := sa.keep e3
    refine ⟨_, rfl, _, rfl, _, rfl, p, ys, _, .ref ts, rfl, rfl, SqL.of hp3, atI_nat hyv, ?_⟩
    refine ⟨a, ts, m, s0, rfl, rfl, sa3, hts, gs.1, fun u hu => ?_, fun pl H4 e4 npl spl => ?_⟩
    · have := gs.2 u hu
      unfold isValue
      rw [decide_eq_true (by omega), decide_eq_true (by omega)]
      rfl
    refine ⟨_, rfl, _, _, rfl, rfl, ?_⟩
    have kz : wKeys ((wKeys m).zip s0) = wKeys m := zip_keys (by rw [gs.1, kl])
    have e34 := e3.trans e4
    have hl4 : SqA K H4 l (cv.map V.ref) := sqA_sm e34 hl
    have lp : l ≠ p := fun z => hln (by rw [z]; exact np0)
    refine ⟨_, rfl, seqA_off hl4 lp fun J2 wk2 => ?_⟩
    rw [List.length_map] at wk2
    have hp4 := e4 _ _ hp3
    have e04 : ∀ {H' : Hp}, Off p H4 H' → Same H H' := fun h b u hb => h b u (ne_of_none hb np0) (e34 _ _ hb)
    refine for_it wk2 (fun i σ H' => ∃ ys v2 v6, (grow (wKeys m) (cs.take i) (levM m cs n) s0).length ≤ 16 ∧ Off p H4 H' ∧ H' p = some (.lst ys) ∧ DpAll K H' ys ((grow (wKeys m) (cs.take i) (levM m cs n) s0).map stD) ∧
      σ = [some (.ref a), some (.ref l), v2, some (.ref p), some (.int (n + 1 : Nat)), some (.ref pl), v6]) ⟨ys, _, _, l16, Off.refl _ _, hp4, DpAll.keep e4 dd3, rfl⟩ (fun i σ H' _ h => let ⟨_, _, _, _, o, _⟩ := h; o) ?_ ?_
    · rintro i x σ H5 H6 hi ⟨ys5, v2', v6', l5, o5, hp5, dd5, rfl⟩ ⟨rfl, hx⟩
      rw [List.getElem?_map] at hx
      obtain ⟨c, hcv, rfl⟩ := Option.map_eq_some_iff.mp hx
      obtain ⟨g, hg, cg⟩ := paired_at (chg_all (e04 o5) hc) hcv
      have sp5 := spl.off hp4 o5
      obtain ⟨⟨dx5, q5, h5a, _⟩, _⟩ := id sp5
      obtain ⟨⟨dy5, q6, h5b, _⟩, _⟩ := id cg
      have gm := List.mem_of_getElem? hg
      -- the state behind the change
      refine ⟨_, rfl, _, rfl, pl, c, dx5, dy5, _, _, rfl, rfl, h5a, h5b, pl, c, _, g, rfl, rfl, sp5, cg, fun hn r H7 e7 nr sr => ?_, fun k hk d H7 e7 hd => ?_⟩
      · obtain ⟨⟨dx7, q7, h7a, _⟩, _⟩ := id sr
        refine ⟨r, dx7, _, rfl, h7a, rfl, r, _, rfl, sr.1, sr.2.2, fun t8 H8 e8 ht8 => ?_⟩
        have e78 := e7.trans e8
        have st8 : SqT K H8 t8 ((stepS (wKeys m) g s0).map V.int) := SqT.of (by
          rw [ht8]
          have := vals_over (ks := wKeys m) (vs := s0) (g := g) okm.2 (by rw [gs.1, kl]) cg.ok.1.2 (sub g gm)
          rw [← this]
          unfold wVals
          rw [List.map_map]
          rfl)
        have dd8 := DpAll.keep e78 dd5
        have hp8 := e78 _ _ hp5
        refine ⟨_, rfl, _, rfl, stD (stepS (wKeys m) g s0), (grow (wKeys m) (cs.take i) (levM m cs n) s0).map stD, st_dp st8, .lst (SqL.of hp8) dd8, st_shaped _, sts_shaped _, _, rfl, ?_⟩
        rw [any_st]
        by_cases hin : stepS (wKeys m) g s0 ∈ grow (wKeys m) (cs.take i) (levM m cs n) s0
        · refine ifF (by rw [decide_eq_true hin]; rfl) ?_
          refine ⟨ys5, _, _, ?_, o5.trans (off_sm e78), hp8, ?_, rfl⟩
          · rw [grow_take hg, if_pos hin]; exact l5
          · rw [grow_take hg, if_pos hin]; exact dd8
        · refine ifT (by rw [decide_eq_false hin]; rfl) ?_
          have ly5 : ys5.length = (grow (wKeys m) (cs.take i) (levM m cs n) s0).length := by rw [DpAll.len dd5, List.length_map]
          refine ⟨_, rfl, .inl ⟨rfl, _, SqL.of hp8⟩, _, rfl, p, ys5, .ref t8, rfl, rfl, hp8, small1000 (by omega), ?_⟩
          have ts9 : TS K H8 (upd H8 p (.lst (ys5 ++ [.ref t8]))) := ts_upd _ hp8 trivial
          have dd9 : DpAll K (upd H8 p (.lst (ys5 ++ [.ref t8]))) (ys5 ++ [.ref t8]) ((grow (wKeys m) (cs.take (i + 1)) (levM m cs n) s0).map stD) := by
            rw [grow_take hg, if_neg hin, List.map_append]
            exact DpAll.snoc (dps_ts ts9 dd8 (noLs_sts _)) (dp_ts ts9 (st_dp st8) (noL_st _))
          have l9 : (grow (wKeys m) (cs.take (i + 1)) (levM m cs n) s0).length = (grow (wKeys m) (cs.take i) (levM m cs n) s0).length + 1 := by rw [grow_take hg, if_neg hin, List.length_append]; rfl
          have o9 : Off p H4 (upd H8 p (.lst (ys5 ++ [.ref t8]))) := (o5.trans (off_sm e78)).trans off_upd
          refine ⟨_, rfl, p, _, rfl, .inl (SqL.of upd_same), _, _, rfl, rfl, _, rfl, ?_⟩
          rw [List.length_append]
          refine ifB (fun c1 => ?_) (fun c1 => ?_)
          · have c1' : (16 : Int) < ((ys5.length + 1 : Nat) : Int) := of_decide_eq_true c1
            refine qM (n + 1) ?_ _ (e04 o9)
            rw [lev1]
            have := grow_part (ks := wKeys m) (cs := cs) (l := levM m cs n) (v := s0) (i + 1)
            omega
          · have c1' : ¬ (16 : Int) < ((ys5.length + 1 : Nat) : Int) := of_decide_eq_false c1
            exact ⟨_, _, _, by omega, o9, upd_same, dd9, rfl⟩
      · rw [lack_keys kz, nl' i g hg] at hk
        cases hk
    · rintro σ H5 ⟨ys5, v2', v6', l5, o5, hp5, dd5, rfl⟩
      rw [lc, List.take_length] at l5 dd5
      refine ⟨ys5, _, _, _, ?_, e04 o5, hp5, ?_, rfl⟩
      · rw [lev1]; exact l5
      · rw [lev1]; exact dd5
  · -- all are found
    have hlt' : ¬ (n : Int) < (ys.length : Nat) := of_decide_eq_false hlt
    refine ⟨_, rfl, p, ys, rfl, SqL.of hp3, by omega, fun x hx => ?_, fun zs r pz pw nr => ?_⟩
    · obtain ⟨i, hi⟩ := List.getElem?_of_mem hx
      obtain ⟨d, hd, dx⟩ := DpAll.getV dd3 hi
      rw [List.getElem?_map] at hd
      obtain ⟨s1, hs1, rfl⟩ := Option.map_eq_some_iff.mp hd
      obtain ⟨t, rfl, ht⟩ := dp_st dx
      have gs := good n s1 (List.mem_of_getElem? hs1)
      exact ⟨s1, ⟨t, rfl, ht⟩, by rw [gs.1, edd], fun u hu => gs.2 u hu⟩
    · obtain ⟨ss, ps, dz⟩ := perm_states pz dd3
      have e5 := smNew e3 nr (.lst zs)
      exact qR n (by omega) l16 r _ zs ss e5 (e3.free nr) upd_same (DpAll.keep (smNew1 nr _) dz) ps (pw_states dz pw)
end
end RM

set_option Elab.async false
set_option linter.all false
set_option maxRecDepth 100000
set_option maxHeartbeats 2000000
namespace RM
open PySem PySem.Spec PyProof.Rows L2
theorem wGet_some_iff {m : WM} {k : Str} : ((wGet m k).map V.int).isSome = decide (k ∈ wKeys m) := by
  rw [Bool.eq_iff_iff, decide_eq_true_iff]
  cases e : wGet m k with
  | none => simp [wGet_none.mp e]
  | some n => simp; exact List.mem_map.mpr ⟨(k, n), wGet_some e, rfl⟩
section
variable {P : Program} {w : World} {K : PySem.W.Frag} {mg : Str → Option Value} {base : Heap}
/-! ### in -/
def spInS (K : PySem.W.Frag) : Sp := fun vs H Q _ => match vs with
  | [x, y] => ∃ a m k, x = .ref a ∧ y = .str k ∧ SurAt K H a m ∧ Q (.bl (decide (k ∈ wKeys m))) H
  | _ => False
theorem sc_Surroundings_contains : FnScope ["self", "key"] ["self", "key"] (defScope s_Surroundings_contains) := ⟨rfl, rfl, rfl, by decide +kernel, rfl, by decide +kernel, by decide +kernel⟩
theorem o_Surroundings_contains (T : Top w K mg) : OwnC P w K mg base CX0 1 (He.ga K "Surroundings") "__contains__" (spInS K) := by
  refine own_C0 (f_Surroundings_contains T) (spc_Surroundings_contains T) sc_Surroundings_contains (fun _ _ _ _ _ _ us hl => match us, hl with | [_, _], _ => rfl) (fun vs H Q E h => match vs, h with | [_, _], _ => rfl) (fun cdv A outer s H vs Q E hr h => ?_)
  match vs, h with
  | [x, y], h =>
  obtain ⟨a, m, k, rfl, rfl, ⟨⟨dx, p, ha, hp, okm, sm⟩, l1, l4⟩, q⟩ := h
  refine ⟨_, (pss_one (ps_ret (pe_cmp (pc_din (hu_of hr) (pv 1) (pe_fld (pv 0) rfl))))), ?_⟩
  refine ⟨_, rfl, _, rfl, a, _, dx, _, _, rfl, ha, k_Surroundings T, na_Surroundings_now T, rfl, p, _, rfl, .inl ⟨mK m, .inr k, .of hp, rfl, rfl⟩, ?_⟩
  rw [valV_get, wGet_some_iff]
  exact q
/-! ### [] -/
def spGetS (K : PySem.W.Frag) : Sp := fun vs H Q E => match vs with
  | [x, y] => ∃ a m k, x = .ref a ∧ y = .str k ∧ SurAt K H a m ∧ (∀ n, wGet m k = some n → Q (.int n) H) ∧ (k ∉ wKeys m → ∀ d H', Same H H' → H' d = some (.xd [("key", .str k)]) → E (.ref (He.ga K "NoKey")) (some d) H')
  | _ => False
theorem sc_Surroundings_getitem : FnScope ["self", "key"] ["self", "key"] (defScope s_Surroundings_getitem) := ⟨rfl, rfl, rfl, by decide +kernel, rfl, by decide +kernel, by decide +kernel⟩
theorem o_Surroundings_getitem (T : Top w K mg) : OwnC P w K mg base (L2.CX P w) 3 (He.ga K "Surroundings") "__getitem__" (spGetS K) := by
  refine own_CX (f_Surroundings_getitem T) (spc_Surroundings_getitem T) sc_Surroundings_getitem (fun _ _ _ _ _ _ us hl => match us, hl with | [_, _], _ => rfl) (fun vs H Q E h => match vs, h with | [_, _], _ => rfl) (fun cdv A outer s H vs Q E hr h => ?_)
  match vs, h with
  | [x, y], h =>
  obtain ⟨a, m, k, rfl, rfl, ⟨⟨dx, p, ha, hp, okm, sm⟩, l1, l4⟩, q, qE⟩ := h
  refine ⟨_, (pss_cons (ps_if (pt_cmp (pc_dnotin (hu_of hr) (pv 1) (pe_fld (pv 0) rfl)))
      (pss_one (ps_raiseX (takes_of rfl rfl rfl rfl) (c_NoKey_init T) hr (pa_cons (pv 1) pa_nil)))
      pss_nil)
    (pss_one (ps_ret (pe_dget (hu_of hr) (pe_fld (pv 0) rfl) (pv 1) (fun _ _ => rfl))))), ?_⟩
  refine ⟨_, rfl, _, rfl, a, _, dx, _, _, rfl, ha, k_Surroundings T, na_Surroundings_now T, rfl, p, _, rfl, .inl ⟨mK m, .inr k, .of hp, rfl, rfl⟩, _, rfl, ?_⟩
  rw [valV_get]
  cases e : wGet m k with
  | none =>
    refine ifT rfl ⟨_, rfl, ?_⟩
    exact raise1 fun d H' _ e' hd => qE (wGet_none.mp e) d H' e' hd
  | some n =>
    refine ifF rfl ?_
    exact ⟨_, rfl, a, _, dx, _, _, rfl, ha, k_Surroundings T, na_Surroundings_now T, rfl, _, rfl, p, .int n, rfl, .inl ⟨mK m, .inr k, .of hp, rfl, by rw [valV_get, e]; rfl⟩, q n e⟩
/-! ### += -/
def spIadS (K : PySem.W.Frag) : Sp := fun vs H Q E => match vs with
  | [x, y] => ∃ a c m g, x = .ref a ∧ y = .ref c ∧ SurAt K H a m ∧ ChgAt K H c g ∧
    (lack m g = none → ∀ dx p0 p H1, H a = some (.ins (He.ga K "Surroundings") dx [("now", .ref p0)]) → Same H H1 → H p = none → H1 p = some (.dK (mK (wOver m g))) → Q (.ref a) (upd H1 a (.ins (He.ga K "Surroundings") dx [("now", .ref p)]))) ∧
    (∀ k, lack m g = some k → ∀ d H', Same H H' → H' d = some (.xd [("key", .str k)]) → E (.ref (He.ga K "NoKey")) (some d) H')
  | _ => False
theorem sc_Surroundings_iadd : FnScope ["self", "change"] ["self", "change"] (defScope s_Surroundings_iadd) := ⟨rfl, rfl, rfl, by decide +kernel, rfl, by decide +kernel, by decide +kernel⟩
theorem o_Surroundings_iadd (T : Top w K mg) : OwnC P w K mg base (L2.CX P w) 4 (He.ga K "Surroundings") "__iadd__" (spIadS K) := by
  refine own_CX (f_Surroundings_iadd T) (spc_Surroundings_iadd T) sc_Surroundings_iadd (fun _ _ _ _ _ _ us hl => match us, hl with | [_, _], _ => rfl) (fun vs H Q E h => match vs, h with | [_, _], _ => rfl) (fun cdv A outer s H vs Q E hr h => ?_)
  match vs, h with
  | [x, y], h =>
  obtain ⟨a, c, m, g, rfl, rfl, sa, sc, q, qE⟩ := h
  obtain ⟨⟨dx, p, ha, hp, okm, sm⟩, l1, l4⟩ := id sa
  obtain ⟨⟨dy, p2, hc, hp2, okg, sg⟩, lg⟩ := id sc
  refine ⟨_, (pss_cons (ps_if (pt_not (pt_val (pcb (z_isinstance T) call_isi boot_isinstance (pa_cons (pv 1) (pa_cons (pglR (g_Change T)) pa_nil)))))
      (pss_one ps_never)
      pss_nil)
    (pss_cons (ps_fld (pv 0) (pcX (takes_of rfl rfl rfl rfl) (c_changed T) hr (pa_cons (pe_fld (pv 0) rfl) (pa_cons (pv 1) pa_nil))) rfl)
    (pss_one (ps_ret (pv 0))))), ?_⟩
  refine ⟨_, rfl, _, _, _, _, true, rfl, .own _, .base (insB_ty (ins_Change T) (k_Change T) hc), kitC_ok (kit_Change_Change T), ?_⟩
  refine ⟨_, rfl, ifF rfl ?_⟩
  refine ⟨_, rfl, a, _, dx, _, _, rfl, ha, k_Surroundings T, na_Surroundings_now T, rfl, _, rfl, p, c, m, g, rfl, rfl, hp, okm, l4, sc, fun nl r H1 e1 nr hr1 => ?_, qE⟩
  refine ⟨_, rfl, a, _, dx, _, rfl, e1 _ _ ha, k_Surroundings T, na_Surroundings_now T, (by show 1 < 1000; decide), ?_⟩
  exact ⟨_, rfl, q nl dx p r H1 ha e1 nr hr1⟩
end
end RM

set_option Elab.async false
set_option linter.all false
set_option maxRecDepth 100000
set_option maxHeartbeats 2000000
namespace RM
open PySem PySem.Spec PyProof.Rows L2
section
variable {P : Program} {w : World} {K : PySem.W.Frag} {mg : Str → Option Value} {base : Heap}
/-! ### settings -/
def spSettings (K : PySem.W.Frag) : Sp := fun vs H Q _ => match vs with
  | [x] => ∃ a m, x = .ref a ∧ ChgAt K H a m ∧ ∀ p H', Same H H' → H p = none → H' p = some (.dK (mK m)) → Q (.ref p) H'
  | _ => False
theorem sc_Change_settings : FnScope ["self", "key"] ["self"] (defScope s_Change_settings) := ⟨rfl, rfl, rfl, by decide +kernel, rfl, by decide +kernel, by decide +kernel⟩
theorem c_Change_settings (T : Top w K mg) : Met P w K mg base CX0 2 (He.ga K "Change") "settings" (spSettings K) := by
  refine met_0 (f_Change_settings T) (k_Change T) (me_Change_settings T) sc_Change_settings (fun _ _ _ _ _ _ us hl => match us, hl with | [_], _ => rfl) (fun vs H Q E h => match vs, h with | [_], _ => rfl) (fun cdv A outer s H vs Q E hr h => ?_)
  match vs, h with
  | [x], h =>
  obtain ⟨a, m, rfl, ⟨⟨dx, p, ha, hp, hg, hs⟩, hl⟩, q⟩ := h
  refine ⟨_, (pss_one (ps_ret (pe_lock (pe_dc (own := [("key", 1)]) rfl sc_Change_settings.nd (pi_keys (pe_fld (pv 0) rfl)) (blkOk_by (own := [("key", 1)]) (N := ["self", "key"]) (sc := defScope s_Change_settings) (by decide +kernel)) (fun _ _ _ _ _ => (pg_name (i := 1) sc_Change_settings.nd rfl (Or.inl rfl) (Or.inr rfl))) (fun _ _ _ _ _ => pts_nil) (fun _ _ _ _ _ => (pv 1)) (fun _ _ _ _ _ => (pe_dget (hu_of hr) (pe_fld' (K := K) rfl (pv 0) rfl) (pv 1) (fun _ _ => rfl))))))), ?_⟩
  have pa : a ≠ p := fun z => by
    rw [z, hp] at ha
    cases ha
  refine ⟨p, .dK (mK m), hp, trivial, fun od => ?_⟩
  have haL : (upd H p (.frz od (.dK (mK m)))) a = some (.ins (He.ga K "Change") dx [("given", .ref p)]) := by rw [upd_ne pa]; exact ha
  refine ⟨_, rfl, a, _, dx, _, _, rfl, haL, k_Change T, na_Change_given T, rfl, p, od, rfl, .inl ⟨mK m, upd_same, fun D nD => ?_⟩⟩
  have lm : (mK m).length = m.length := List.length_map ..
  refine dc_walk walk_keys (fun i H' => Same (upd H p (.frz od (.dK (mK m)))) H' ∧ H' D = some (.dK (mK (m.take i)))) ⟨smNew1 nD _, upd_same⟩ (fun i H' _ h => h.1 _ _ upd_same) ?_ ?_
  · rintro i x H1 H2 hi ⟨e, hD⟩ ⟨rfl, k, v, hk, rfl⟩
    obtain ⟨z, hz, rfl, rfl⟩ := mK_get hk
    have hm := List.mem_of_getElem? hz
    have il := (List.getElem?_eq_some_iff.mp hz).1
    refine ⟨rfl, yesI ?_⟩
    refine ⟨_, rfl, _, rfl, a, _, dx, _, _, rfl, e _ _ haL, k_Change T, na_Change_given T, rfl, _, rfl, p, .int z.2, rfl, .inl ⟨mK m, .inr z.1, .inr ⟨od, e _ _ upd_same⟩, rfl, (valV_mK hg.2 z hm).symm⟩, mK (m.take i), .inr z.1, rfl, hD, small1000 ?_, ?_⟩
    · show ((m.take i).map _).length ≤ 1000
      rw [List.length_map, List.length_take]
      omega
    · have hne : z.1 ∉ (m.take i).map (·.1) := by
        intro hin
        obtain ⟨j, hj, ej⟩ := List.mem_iff_getElem.mp hin
        rw [List.getElem_map, List.getElem_take] at ej
        have jl : j < i := by rw [List.length_map, List.length_take] at hj; omega
        have e2 : (m.map (·.1))[j]'(by rw [List.length_map]; omega) = (m.map (·.1))[i]'(by rw [List.length_map]; omega) := by
          rw [List.getElem_map, List.getElem_map, ej, (List.getElem?_eq_some_iff.mp hz).2]
        have := (List.getElem_inj (h₀ := by rw [List.length_map]; omega) (h₁ := by rw [List.length_map]; omega) hg.2).mp e2
        omega
      rw [put_new hne]
      refine ⟨smOut e nD _, ?_⟩
      rw [upd_same, List.take_add_one, hz]
      rfl
  · rintro H1 ⟨e, hD⟩
    rw [lm, List.take_length] at hD
    have eH := e _ _ (upd_same : (upd H p (.frz od (.dK (mK m)))) p = _)
    have Dp : D ≠ p := fun z => by
      rw [z] at hD
      rw [hD] at eH
      cases eH
    refine ⟨eH, q D _ (same_back hp e) ?_ (by rw [upd_ne Dp]; exact hD)⟩
    rw [upd_ne Dp] at nD
    exact nD
end
end RM

set_option Elab.async false
set_option linter.all false
set_option maxRecDepth 100000
set_option maxHeartbeats 2000000
namespace RM
open PySem PySem.Spec PyProof.Rows L2
section
variable {P : Program} {w : World} {K : PySem.W.Frag} {mg : Str → Option Value} {base : Heap}
/-! ### is_item -/
inductive ItemOk (K : PySem.W.Frag) (H : Hp) : V → Nat → Prop where
  | k {z : Str} (h : isWord z = true) : ItemOk K H (.str z) 107
  | v {n : Int} (h : isValue n = true) : ItemOk K H (.int n) 118
  | t {n : Int} (h0 : 0 ≤ n) (h3 : n ≤ 3) : ItemOk K H (.int n) 116
  | b {a : Addr} {xs : List V} (h : SqL K H a xs ∨ SqT K H a xs) : ItemOk K H (.ref a) 98
def spIsItem (K : PySem.W.Frag) : Sp := fun vs H Q _ => match vs with
  | [x, f] => ∃ c, f = .str ⟨#[c]⟩ ∧ ItemOk K H x c ∧ ∀ H', Same H H' → Q (.bl true) H'
  | _ => False
theorem sc_is_item : FnScope ["value", "form"] ["value", "form"] (defScope s_is_item) := ⟨rfl, rfl, rfl, by decide +kernel, rfl, by decide +kernel, by decide +kernel⟩
theorem c_is_item (T : Top w K mg) : Cal P w K mg base CX0 2 "is_item" (spIsItem K) := by
  refine cal_0 (f_is_item T) (g_is_item T) sc_is_item (fun _ _ _ _ _ _ us hl => match us, hl with | [_, _], _ => rfl) (fun vs H Q E h => match vs, h with | [_, _], _ => rfl) (fun cdv A outer s H vs Q E hr h => ?_)
  match vs, h with
  | [x, f], h =>
  obtain ⟨c, rfl, ok, q⟩ := h
  refine ⟨_, (pss_cons (ps_if (pt_cmpR op_eq (pv 1) pe_str (nomark _))
      (pss_one (ps_ret (pc (c_is_word T) hr (pa_cons (pv 0) pa_nil))))
      pss_nil)
    (pss_cons (ps_if (pt_cmpR op_eq (pv 1) pe_str (nomark _))
      (pss_one (ps_ret (pc (c_is_value T) hr (pa_cons (pv 0) pa_nil))))
      pss_nil)
    (pss_cons (ps_if (pt_cmpR op_eq (pv 1) pe_str (nomark _))
      (pss_one (ps_ret (pe_and (pc (c_is_value T) hr (pa_cons (pv 0) pa_nil)) (pe_one (pe_chain op_le op_le pe_int (pv 0) pe_int)))))
      pss_nil)
    (pss_one (ps_ret (pcb (z_isinstance T) call_isiT boot_isinstance (pa_cons (pv 0) (pa_cons (pe_tup (pa_cons (pty (z_list T) boot_list) (pa_cons (pty (z_tuple T) boot_tuple) pa_nil))) pa_nil)))))))), ?_⟩
  have q0 := q H (Same.refl H)
  cases ok with
  | k hz =>
    refine ⟨_, rfl, rfl, _, rfl, ifT (by decide +kernel) ?_⟩
    exact ⟨_, rfl, _, rfl, word_size hz, by rw [hz]; exact q0⟩
  | v hv =>
    refine ⟨_, rfl, rfl, _, rfl, ifF (by decide +kernel) ?_⟩
    refine ⟨_, rfl, rfl, _, rfl, ifT (by decide +kernel) ?_⟩
    exact ⟨_, rfl, _, rfl, by rw [hv]; exact q0⟩
  | @t n h0 h3 =>
    refine ⟨_, rfl, rfl, _, rfl, ifF (by decide +kernel) ?_⟩
    refine ⟨_, rfl, rfl, _, rfl, ifF (by decide +kernel) ?_⟩
    refine ⟨_, rfl, rfl, _, rfl, ifT (by decide +kernel) ?_⟩
    have hv : isValue n = true := isValue_rep (by rw [decide_eq_true h0, decide_eq_true h3]; rfl)
    refine ⟨_, rfl, _, rfl, _, rfl, ifT hv ?_⟩
    refine ⟨_, rfl, _, _, rfl, rfl, _, rfl, ifT (decide_eq_true h0) ⟨_, _, rfl, rfl, ?_⟩⟩
    exact qT (decide_eq_true h3) q0
  | b ha =>
    refine ⟨_, rfl, rfl, _, rfl, ifF (by decide +kernel) ?_⟩
    refine ⟨_, rfl, rfl, _, rfl, ifF (by decide +kernel) ?_⟩
    refine ⟨_, rfl, rfl, _, rfl, ifF (by decide +kernel) ?_⟩
    refine ⟨_, rfl, (by show 2 ≤ sizeLine; decide), fun p hp => ?_⟩
    have s1 : Same H (upd H p (.tup [.ty "list", .ty "tuple"])) := smNew1 hp _
    rcases ha with ha | ha
    · exact ⟨_, p, _, _, [.type "list", .type "tuple"], true, rfl, upd_same, .cons (.ty _) (.cons (.ty _) .nil), tyL (s1.seq ha), kitAny_cons (b := true) (kit_ty (by decide +kernel)) (fun z => by cases z) (fun _ => rfl), q _ s1⟩
    · exact ⟨_, p, _, _, [.type "list", .type "tuple"], true, rfl, upd_same, .cons (.ty _) (.cons (.ty _) .nil), tyT (smT s1 ha), kitAny_cons (b := false) (kit_ty (by decide +kernel)) (fun _ => kitAny_cons (b := true) (kit_ty (by decide +kernel)) (fun z => by cases z) (fun _ => rfl)) (fun z => by cases z), q _ s1⟩
/-! ### the table of forms -/
theorem forms (T : Top w K mg) (s : Stm) : ∃ es m, KDict K w (He.ga K "FORMS") es m ∧ ∃ u, PySem.W.nsIn K (He.ga K "FORMS") s.word = some (some u) ∧ RelV (.str s.form) u := by
  obtain ⟨es, m, D⟩ := t_FORMS T
  refine ⟨es, m, D, ?_⟩
  have h := v_FORMS T
  cases s <;> first
    | exact He.valsB_ok h (q := ("read", .str "kk")) (by simp [tab_FORMS])
    | exact He.valsB_ok h (q := ("set", .str "kv")) (by simp [tab_FORMS])
    | exact He.valsB_ok h (q := ("copy", .str "kk")) (by simp [tab_FORMS])
    | exact He.valsB_ok h (q := ("print", .str "k")) (by simp [tab_FORMS])
    | exact He.valsB_ok h (q := ("say", .str "v")) (by simp [tab_FORMS])
    | exact He.valsB_ok h (q := ("wait", .str "")) (by simp [tab_FORMS])
    | exact He.valsB_ok h (q := ("if", .str "kvbb")) (by simp [tab_FORMS])
    | exact He.valsB_ok h (q := ("same", .str "kkbb")) (by simp [tab_FORMS])
    | exact He.valsB_ok h (q := ("repeat", .str "tb")) (by simp [tab_FORMS])
    | exact He.valsB_ok h (q := ("stop", .str "")) (by simp [tab_FORMS])
theorem kd_form (T : Top w K mg) (s : Stm) : KDct K w (He.ga K "FORMS") s.word (.str s.form) := by
  obtain ⟨es, m, D, u, h, r⟩ := forms T s
  exact ⟨es, m, u, D.1, D.2, h, r⟩
/-! ### a statement as a tuple -/
/-- x stands for a statement: its word, its items -/
def ShapeS (K : PySem.W.Frag) (H : Hp) (x : V) (s : Stm) (fl : Bool) : Prop :=
  ∃ a xs, x = .ref a ∧ SqT K H a (.str s.word :: xs) ∧ DpAll K H xs (s.flats ++ s.bodies.map fun b => seqD fl (encB fl b))
theorem shape_of {H : Hp} {x : V} {s : Stm} {fl : Bool} (h : Dp K H x (encS fl s)) : ShapeS K H x s fl := by
  rw [encS_eq] at h
  obtain ⟨a, xs, rfl, hq, hd⟩ := Dp.tup_inv h
  obtain ⟨v, r, rfl, h1, h2⟩ := DpAll.cons_inv hd
  rw [Dp.str_inv h1] at hq
  exact ⟨a, r, rfl, hq, h2⟩
theorem form_len (s : Stm) : s.form.cps.size = s.flats.length + s.bodies.length := by
  cases s <;> (simp only [Stm.form, Stm.flats, Stm.bodies, List.length_cons, List.length_nil]; decide +kernel)
theorem word_sz (s : Stm) : s.word.length ≤ sizeLine ∧ s.form.length ≤ sizeLine := by
  have h : s.word.length ≤ 1000 ∧ s.form.length ≤ 1000 := by cases s <;> (simp only [Stm.form, Stm.word]; decide +kernel)
  exact ⟨Nat.le_of_lt (small1000 h.1), Nat.le_of_lt (small1000 h.2)⟩
theorem form_five (s : Stm) : s.form.cps.size ≤ 4 := by cases s <;> (simp only [Stm.form]; decide +kernel)
theorem ShapeS.items {H : Hp} {xs : List V} {s : Stm} {fl : Bool} (h : DpAll K H xs (s.flats ++ s.bodies.map fun b => seqD fl (encB fl b))) : xs.length = s.form.cps.size := by
  rw [form_len, DpAll.len h, List.length_append, List.length_map]
/-- each item is what its sign says -/
theorem item_ok {H : Hp} {xs : List V} {s : Stm} {fl : Bool} (hw : wl s = true) (h : DpAll K H xs (s.flats ++ s.bodies.map fun b => seqD fl (encB fl b))) {i c : Nat} {x : V} (hx : xs[i]? = some x) (hc : s.form.cps[i]? = some c) : ItemOk K H x c := by
  obtain ⟨d, hd, dp⟩ := DpAll.getV h hx
  have seqOk : ∀ {ds : List PyData}, Dp K H x (seqD fl ds) → ItemOk K H x 98 := fun {ds} q => by
    obtain ⟨a, ys, rfl, hs, _⟩ := seqD_inv q
    exact .b hs
  cases s with
  | read v k =>
    simp only [wl, Bool.and_eq_true] at hw
    match i, hd, hc with
    | 0, hd, hc => cases hd; cases hc; rw [Dp.str_inv dp]; exact .k hw.1
    | 1, hd, hc => cases hd; cases hc; rw [Dp.str_inv dp]; exact .k hw.2
    | n + 2, hd, hc => simp [Stm.flats, Stm.bodies] at hd
  | set v n =>
    simp only [wl, Bool.and_eq_true] at hw
    match i, hd, hc with
    | 0, hd, hc => cases hd; cases hc; rw [Dp.str_inv dp]; exact .k hw.1
    | 1, hd, hc => cases hd; cases hc; rw [Dp.int_inv dp]; exact .v hw.2
    | n + 2, hd, hc => simp [Stm.flats, Stm.bodies] at hd
  | copy v u =>
    simp only [wl, Bool.and_eq_true] at hw
    match i, hd, hc with
    | 0, hd, hc => cases hd; cases hc; rw [Dp.str_inv dp]; exact .k hw.1
    | 1, hd, hc => cases hd; cases hc; rw [Dp.str_inv dp]; exact .k hw.2
    | n + 2, hd, hc => simp [Stm.flats, Stm.bodies] at hd
  | print v =>
    match i, hd, hc with
    | 0, hd, hc => cases hd; cases hc; rw [Dp.str_inv dp]; exact .k hw
    | n + 1, hd, hc => simp [Stm.flats, Stm.bodies] at hd
  | say n =>
    match i, hd, hc with
    | 0, hd, hc => cases hd; cases hc; rw [Dp.int_inv dp]; exact .v hw
    | n + 1, hd, hc => simp [Stm.flats, Stm.bodies] at hd
  | wait => simp [Stm.flats, Stm.bodies] at hd
  | stop => simp [Stm.flats, Stm.bodies] at hd
  | ite v n a b =>
    simp only [wl, Bool.and_eq_true] at hw
    match i, hd, hc with
    | 0, hd, hc => cases hd; cases hc; rw [Dp.str_inv dp]; exact .k hw.1
    | 1, hd, hc => cases hd; cases hc; rw [Dp.int_inv dp]; exact .v hw.2
    | 2, hd, hc => cases hc; exact seqOk (ds := encB fl a) (by cases hd; exact dp)
    | 3, hd, hc => cases hc; exact seqOk (ds := encB fl b) (by cases hd; exact dp)
    | n + 4, hd, hc => simp [Stm.flats, Stm.bodies] at hd
  | same v u a b =>
    simp only [wl, Bool.and_eq_true] at hw
    match i, hd, hc with
    | 0, hd, hc => cases hd; cases hc; rw [Dp.str_inv dp]; exact .k hw.1
    | 1, hd, hc => cases hd; cases hc; rw [Dp.str_inv dp]; exact .k hw.2
    | 2, hd, hc => cases hc; exact seqOk (ds := encB fl a) (by cases hd; exact dp)
    | 3, hd, hc => cases hc; exact seqOk (ds := encB fl b) (by cases hd; exact dp)
    | n + 4, hd, hc => simp [Stm.flats, Stm.bodies] at hd
  | rep n a =>
    simp only [wl, Bool.and_eq_true] at hw
    match i, hd, hc with
    | 0, hd, hc => cases hd; cases hc; rw [Dp.int_inv dp]; exact .t (of_decide_eq_true hw.1) (of_decide_eq_true hw.2)
    | 1, hd, hc => cases hc; exact seqOk (ds := encB fl a) (by cases hd; exact dp)
    | n + 2, hd, hc => simp [Stm.flats, Stm.bodies] at hd
/-! ### is_statement -/
def spIsStm (K : PySem.W.Frag) : Sp := fun vs H Q _ => match vs with
  | [x] => ∃ (fl : Bool) (s : Stm), Dp K H x (encS fl s) ∧ wl s = true ∧ ∀ H', Same H H' → Q (.bl true) H'
  | _ => False
theorem sc_is_statement : FnScope ["value", "form", "item", "sign"] ["value"] (defScope s_is_statement) := ⟨rfl, rfl, rfl, by decide +kernel, rfl, by decide +kernel, by decide +kernel⟩
theorem c_is_statement (T : Top w K mg) : Cal P w K mg base CX0 3 "is_statement" (spIsStm K) := by
  refine cal_0 (f_is_statement T) (g_is_statement T) sc_is_statement (fun _ _ _ _ _ _ us hl => match us, hl with | [_], _ => rfl) (fun vs H Q E h => match vs, h with | [_], _ => rfl) (fun cdv A outer s H vs Q E hr h => ?_)
  match vs, h with
  | [x], h =>
  obtain ⟨fl, s, hd, hw, q⟩ := h
  obtain ⟨es, m, D, u, hu, ru⟩ := forms T s
  obtain ⟨a, xs, rfl, ha, hx⟩ := shape_of hd
  refine ⟨_, (pss_cons (ps_if (PW.pt (pw_or (pt_not (pt_val (pcb (z_isinstance T) call_isi boot_isinstance (pa_cons (pv 0) (pa_cons (pty (z_tuple T) boot_tuple) pa_nil))))) (pw_or (pt_not (pt_truth (pv 0) (by intro _; rfl))) (pw_or (pt_not (pt_val (pcb (z_isinstance T) call_isi boot_isinstance (pa_cons (pe_ix ix_tup (pv 0) pe_int (fun _ _ => rfl)) (pa_cons (pty (z_str T) boot_str) pa_nil))))) (pw_or1 (pt_cmpR (op_notIn_kd D) (pe_ix ix_tup (pv 0) pe_int (fun _ _ => rfl)) (pglR (g_FORMS T)) rfl))))))
      (pss_one (ps_ret pe_bl))
      pss_nil)
    (pss_cons (ps_set (i := 1) sc_is_statement.nd rfl (Or.inl rfl) (pe_ix ix_kdict (pglR (g_FORMS T)) (pe_ix ix_tup (pv 0) pe_int (fun _ _ => rfl)) (fun _ _ => rfl)))
    (pss_cons (ps_if (pt_cmpR op_ne (pcb (z_len T) call_len_seq boot_len (pa_cons (pv 0) pa_nil)) (pe_op op_add (pcb (z_len T) call_len_str boot_len (pa_cons (pv 1) pa_nil)) pe_int) (nomark _))
      (pss_one (ps_ret pe_bl))
      pss_nil)
    (pss_one (ps_ret (pcb (z_all T) (cr_all rfl) boot_all (pa_cons (pe_lc (own := [("item", 2), ("sign", 3)]) rfl sc_is_statement.nd (pi_zipTS (by rfl) (z_zip T) (pa_cons (pe_slice sl_tup (pv 0) (po_some pe_int) po_none) (pa_cons (pv 1) pa_nil))) (blkOk_by (own := [("item", 2), ("sign", 3)]) (N := ["value", "form", "item", "sign"]) (sc := defScope s_is_statement) (by decide +kernel)) (fun _ _ _ _ _ => (pg_tup' (n := 2) (K := K) rfl rfl (pgs_cons (pg_name (i := 2) sc_is_statement.nd rfl (Or.inl rfl) (Or.inr rfl)) (pgs_cons (pg_name (i := 3) sc_is_statement.nd rfl (Or.inl rfl) (Or.inr rfl)) pgs_nil)) rfl rfl)) (fun _ _ _ _ _ => pts_nil) (fun _ _ _ _ _ => (pc (c_is_item T) hr (pa_cons (pv 2) (pa_cons (pv 3) pa_nil))))) pa_nil))))))), ?_⟩
  refine ⟨_, rfl, _, _, _, _, true, rfl, .ty _, tyT ha, kit_ty (by decide +kernel), _, rfl, iteF ?_⟩
  refine ⟨_, rfl, true, Or.inr (Or.inl ⟨_, ha, rfl⟩), iteF ?_⟩
  refine ⟨_, rfl, _, _, _, _, rfl, rfl, ha, at0, ?_⟩
  refine ⟨_, _, _, _, true, rfl, .ty _, .base (.str _), kit_ty (by decide +kernel), _, rfl, iteF ?_⟩
  refine ⟨_, rfl, _, _, _, _, rfl, rfl, ha, at0, _, _, rfl, rfl, hu, _, rfl, iteF ?_⟩
  refine ⟨_, rfl, _, _, _, _, rfl, rfl, ha, at0, _, _, _, rfl, rfl, ⟨es, m, u, D.1, D.2, hu, ru⟩, ?_⟩
  have hl : xs.length = s.form.cps.size := ShapeS.items hx
  refine ⟨_, rfl, _, _, rfl, .inr ha, _, rfl, _, rfl, (word_sz s).2, _, _, rfl, rfl, rfl, _, rfl, ifF ?_ ?_⟩
  · rw [Bool.not_eq_false', decide_eq_true_eq]
    show V.int (((V.str s.word :: xs).length : Nat) : Int) = V.int ((s.form.length : Int) + 1)
    rw [List.length_cons, hl]
    rfl
  -- all([is_item(item, sign) for item, sign in zip(value[1:], form)])
  refine ⟨_, rfl, _, rfl, _, _, rfl, ha, cut_not, fun p hp => ?_⟩
  rw [cut_tail]
  have s1 : Same H (upd H p (.tup xs)) := smNew1 hp _
  refine ⟨_, rfl, _, xs, _, rfl, SqT.of upd_same, fun D nD => ?_⟩
  have i4 := form_five s
  refine lc_opt (walk_zipTS hl) (fun (_ : Unit) y _ => y = .bl true) (fun _ => some ()) nD (small1000 (by omega)) (fun H' e => smT e (SqT.of upd_same)) (fun _ _ _ _ h _ => h) (fun _ _ _ _ _ h _ => h) ?_ ?_
  · rintro i x H1 H2 N hi e ⟨t, y, z, rfl, ht, rfl, hy, hz⟩ hk _
    obtain ⟨c, hc, rfl⟩ := Option.map_eq_some_iff.mp hz
    refine ⟨t, _, rfl, SqT.of upd_same, rfl, _, _, rfl, _, _, rfl, rfl, rfl, ?_⟩
    refine yesI ?_
    have sx : Same H (upd H1 t (.tup [y, .str ⟨#[c]⟩])) := smNew (fun b o q => e b o (s1 b o q)) ht _
    refine ⟨_, rfl, _, rfl, c, rfl, item_ok hw (DpAll.keep sx hx) hy hc, fun H3 s3 => ?_⟩
    exact hk _ _ () rfl (fun b o q => s3 b o (smNew1 ht _ b o q)) rfl
  · intro H' ys e hD hp'
    rw [paired_const hp', range_some, List.length_map, List.length_range, rep_bl] at hD
    exact ⟨_, _, rfl, SqL.of hD, qT (all_rep _) (q _ fun b o z => e _ _ (s1 b o z))⟩
end
end RM

set_option Elab.async false
set_option linter.all false
set_option maxRecDepth 100000
set_option maxHeartbeats 2000000
namespace RM
open PySem PySem.Spec PyProof.Rows L2
section
variable {P : Program} {w : World} {K : PySem.W.Frag} {mg : Str → Option Value} {base : Heap}
/-! ### bodies_of -/
def spBodies (K : PySem.W.Frag) : Sp := fun vs H Q _ => match vs with
  | [x] => ∃ (fl : Bool) (s : Stm), Dp K H x (encS fl s) ∧
    ∀ p H' ys, Same H H' → H p = none → H' p = some (.lst ys) → DpAll K H ys (s.bodies.map fun b => seqD fl (encB fl b)) → Q (.ref p) H'
  | _ => False
theorem sc_bodies_of : FnScope ["statement", "item", "sign"] ["statement"] (defScope s_bodies_of) := ⟨rfl, rfl, rfl, by decide +kernel, rfl, by decide +kernel, by decide +kernel⟩
theorem paired_dp {K : PySem.W.Frag} {H : Hp} : ∀ {ys : List V} {ds : List PyData}, Paired (fun y a => Dp K H y a) ys ds → DpAll K H ys ds
  | _, _, .nil => .nil
  | _, _, .cons h t => .cons h (paired_dp t)
theorem c_bodies_of (T : Top w K mg) : Cal P w K mg base CX0 1 "bodies_of" (spBodies K) := by
  refine cal_0 (f_bodies_of T) (g_bodies_of T) sc_bodies_of (fun _ _ _ _ _ _ us hl => match us, hl with | [_], _ => rfl) (fun vs H Q E h => match vs, h with | [_], _ => rfl) (fun cdv A outer s H vs Q E hr h => ?_)
  match vs, h with
  | [x], h =>
  obtain ⟨fl, s, hd, q⟩ := h
  obtain ⟨a, xs, rfl, ha, hx⟩ := shape_of hd
  have hl : xs.length = s.form.cps.size := ShapeS.items hx
  have i4 := form_five s
  refine ⟨_, (pss_one (ps_ret (pe_lc (own := [("item", 1), ("sign", 2)]) rfl sc_bodies_of.nd (pi_zipTS (by rfl) (z_zip T) (pa_cons (pe_slice sl_tup (pv 0) (po_some pe_int) po_none) (pa_cons (pe_ix ix_kdict (pglR (g_FORMS T)) (pe_ix ix_tup (pv 0) pe_int (fun _ _ => rfl)) (fun _ _ => rfl)) pa_nil))) (blkOk_by (own := [("item", 1), ("sign", 2)]) (N := ["statement", "item", "sign"]) (sc := defScope s_bodies_of) (by decide +kernel)) (fun _ _ _ _ _ => (pg_tup' (n := 2) (K := K) rfl rfl (pgs_cons (pg_name (i := 1) sc_bodies_of.nd rfl (Or.inl rfl) (Or.inr rfl)) (pgs_cons (pg_name (i := 2) sc_bodies_of.nd rfl (Or.inl rfl) (Or.inr rfl)) pgs_nil)) rfl rfl)) (fun _ _ _ _ _ => (pts_one (pt_cmpR op_eq (pv 2) pe_str (nomark _)))) (fun _ _ _ _ _ => (pv 1))))), ?_⟩
  refine ⟨_, rfl, _, rfl, _, _, rfl, ha, cut_not, fun p hp => ?_⟩
  rw [cut_tail]
  have s1 : Same H (upd H p (.tup xs)) := smNew1 hp _
  refine ⟨_, rfl, _, _, _, _, rfl, rfl, smT s1 ha, at0, _, _, _, rfl, rfl, kd_form T s, ?_⟩
  refine ⟨_, xs, _, rfl, SqT.of upd_same, fun D nD => ?_⟩
  have hDn : H D = none := s1.free nD
  refine lc_opt (walk_zipTS hl) (fun (d : PyData) y _ => Dp K H y d) (fun i => if s.signs[i]? = some 98 then (s.flats ++ s.bodies.map fun b => seqD fl (encB fl b))[i]? else none) nD (small1000 (by omega)) (fun H' e => smT e (SqT.of upd_same)) (fun _ _ _ _ h _ => h) (fun _ _ _ _ _ h _ => h) ?_ ?_
  · rintro i x H1 H2 N hi e ⟨t, y, z, rfl, ht, rfl, hy, hz⟩ hk hno
    obtain ⟨c, hc, rfl⟩ := Option.map_eq_some_iff.mp hz
    have hs := sign_at hc
    refine ⟨t, _, rfl, SqT.of upd_same, rfl, _, _, rfl, _, _, rfl, rfl, rfl, _, rfl, ?_⟩
    obtain ⟨d, hd1, hd2⟩ := DpAll.getV hx hy
    by_cases c98 : c = 98
    · subst c98
      refine ⟨rfl, _, rfl, ifT (by rw [str_b, sgn]; rfl) ?_⟩
      exact ⟨_, rfl, hk _ _ d (by rw [hs, if_pos rfl]; exact hd1) (smNew1 ht _) hd2⟩
    · refine ⟨rfl, _, rfl, ifF (by rw [str_b, sgn]; exact decide_eq_false c98) ?_⟩
      exact hno (by rw [hs, if_neg (fun z => c98 (Option.some.inj z))]) _ (smNew1 ht _)
  · intro H' ys e hD hp'
    have e2 : xs.length = (s.flats ++ s.bodies.map fun b => seqD fl (encB fl b)).length := DpAll.len hx
    rw [e2, bodies_sel] at hp'
    exact q D H' ys (fun b o z => e _ _ (s1 b o z)) hDn hD (paired_dp hp')
/-! ### check_body -/
def spCheck (K : PySem.W.Frag) (n : Nat) : Sp := fun vs H Q _ => match vs with
  | [b, p] => ∃ (fl : Bool) (l : List Stm) (pth : List Int), Dp K H b (seqD fl (encB fl l)) ∧ Dp K H p (pathD pth) ∧ wB l = true ∧ dB l ≤ n ∧ pth.length + 2 * n ≤ 1000 ∧ ∀ H', Same H H' → Q .non H'
  | _ => False
theorem sc_check_body : FnScope ["body", "path", "place", "statement", "here", "number", "inner"] ["body", "path"] (defScope s_check_body) := ⟨rfl, rfl, rfl, by decide +kernel, rfl, by decide +kernel, by decide +kernel⟩
theorem path_snoc {H : Hp} {a b : Addr} {p : List Int} {i : Int} {Q : VK} (ha : SqT K H a (p.map V.int)) (hb : SqT K H b [.int i]) (hl : p.length + 1 ≤ sizeLine)
    (q : ∀ v H', Same H H' → Dp K H' v (pathD (p ++ [i])) → Q v H') : CatG K (.ref a) (.ref b) H Q :=
  catA_of ha hb (by rw [List.length_map]; exact hl) fun t H' e h => q _ H' e (path_dp (by rw [List.map_append]; exact h))
theorem ok_check (T : Top w K mg) {n : Nat} (ih : Cal P w K mg base CX0 (n + 4) "check_body" (spCheck K n)) : Cal P w K mg base CX0 (n + 5) "check_body" (spCheck K (n + 1)) := by
  refine cal_0 (f_check_body T) (g_check_body T) sc_check_body (fun _ _ _ _ _ _ us hl => match us, hl with | [_, _], _ => rfl) (fun vs H Q E h => match vs, h with | [_, _], _ => rfl) (fun cdv A outer s H vs Q E hr h => ?_)
  match vs, h with
  | [b, p], h =>
  obtain ⟨fl, l, pth, hb, hp, hw, hn, hlen, q⟩ := h
  obtain ⟨a, xs, rfl, ha, hx⟩ := seqD_inv hb
  refine ⟨_, (pss_one (ps_for PassesOwn.never rfl (pi_enumA (by rfl) (z_enumerate T) (pa_cons (pv 0) pa_nil)) (pg_tup rfl (pgs_cons (pg_name (i := 2) sc_check_body.nd rfl (Or.inl rfl)) (pgs_cons (pg_name (i := 3) sc_check_body.nd rfl (Or.inl rfl)) pgs_nil)))
      (pss_cons (ps_set (i := 4) sc_check_body.nd rfl (Or.inl rfl) (pe_op op_catG (pv 1) (pe_tup (pa_cons (pv 2) pa_nil))))
    (pss_cons (ps_if (pt_not (pt_val (pc (c_is_statement T) hr (pa_cons (pv 3) pa_nil))))
      (pss_one ps_never)
      pss_nil)
    (pss_one (ps_for PassesOwn.never rfl (pi_enumA (by rfl) (z_enumerate T) (pa_cons (pc (c_bodies_of T) hr (pa_cons (pv 3) pa_nil)) pa_nil)) (pg_tup rfl (pgs_cons (pg_name (i := 5) sc_check_body.nd rfl (Or.inl rfl)) (pgs_cons (pg_name (i := 6) sc_check_body.nd rfl (Or.inl rfl)) pgs_nil)))
      (pss_one (ps_expr (pc ih hr (pa_cons (pv 6) (pa_cons (pe_op op_catG (pv 4) (pe_tup (pa_cons (pv 5) pa_nil))) pa_nil))))))))))), ?_⟩
  have lx : xs.length = l.length := by rw [DpAll.len hx, encB_map, List.length_map]
  refine ⟨_, rfl, ?_⟩
  refine enumA_of ha (Same.refl _) fun J wk => ?_
  refine for_it wk (fun i σ H' => Same H H' ∧ ∃ v2 v3 v4 v5 v6, σ = [some (.ref a), some p, v2, v3, v4, v5, v6]) ⟨Same.refl H, _, _, _, _, _, rfl⟩ (fun _ _ _ _ h => h.1) ?_ ?_
  · rintro i x σ H1 H2 hi ⟨s1, v2, v3, v4, v5, v6, rfl⟩ ⟨t, y, z, rfl, ht, rfl, hy, hz⟩
    obtain rfl : V.int (i : Nat) = y := Option.some.inj hy
    obtain ⟨d, hd1, hd2⟩ := DpAll.getV hx hz
    obtain ⟨st, hst, rfl⟩ := encB_get hd1
    have hm : st ∈ l := List.mem_of_getElem? hst
    have hws := wB_all hw st hm
    have s2 := smNew s1 ht (.tup [.int (i : Nat), z])
    refine ⟨t, _, rfl, SqT.of upd_same, rfl, _, _, rfl, _, _, rfl, rfl, ?_⟩
    -- here = path + (place,)
    obtain ⟨pa, rfl, hpa⟩ := path_inv (Dp.keep s2 hp)
    refine ⟨_, rfl, _, rfl, (by show 1 ≤ sizeLine; decide), fun p1 hp1 => ?_⟩
    have s3 := smNew s2 hp1 (.tup [.int (i : Nat)])
    refine path_snoc (smT (smNew1 hp1 _) hpa) (SqT.of upd_same) (Nat.le_of_lt (small1000 (by omega))) fun here H3 s3' hh => ?_
    have s4 : Same H H3 := s3.trans s3'
    -- if not is_statement(statement)
    refine ⟨_, rfl, fl, st, Dp.keep s4 hd2, wl_of hws, fun H4 e4 => ⟨_, rfl, iteF ?_⟩⟩
    have s5 : Same H H4 := s4.trans e4
    -- for number, inner in enumerate(bodies_of(statement))
    refine ⟨_, rfl, fl, st, Dp.keep s5 hd2, fun pb H5 ys e5 npb hpb hys => ?_⟩
    refine enumA_of (.inl (SqL.of hpb)) (Same.refl _) fun J2 wk2 => ?_
    refine for_it wk2 (fun j σ H' => Same H5 H' ∧ ∃ v5 v6, σ = [some (.ref a), some (.ref pa), some (.int (i : Nat)), some z, some here, v5, v6]) ⟨Same.refl H5, _, _, rfl⟩ (fun _ _ _ _ h => h.1) ?_ ?_
    · rintro j x2 σ2 H6 H7 hj ⟨s6, w5, w6, rfl⟩ ⟨t2, y2, z2, rfl, ht2, rfl, hy2, hz2⟩
      obtain rfl : V.int (j : Nat) = y2 := Option.some.inj hy2
      obtain ⟨d2, hd3, hd4⟩ := DpAll.getV hys hz2
      rw [List.getElem?_map] at hd3
      obtain ⟨bd, hbd, rfl⟩ := Option.map_eq_some_iff.mp hd3
      have hmb : bd ∈ st.bodies := List.mem_of_getElem? hbd
      have s7 : Same H4 H6 := e5.trans s6
      have s8 := smNew s7 ht2 (.tup [.int (j : Nat), z2])
      refine ⟨t2, _, rfl, SqT.of upd_same, rfl, _, _, rfl, _, _, rfl, rfl, ?_⟩
      obtain ⟨ha2, rfl, hha⟩ := path_inv (Dp.keep s8 (Dp.keep e4 hh))
      refine ⟨_, rfl, _, rfl, _, rfl, (by show 1 ≤ sizeLine; decide), fun p2 hp2 => ?_⟩
      refine path_snoc (smT (smNew1 hp2 _) hha) (SqT.of upd_same) (Nat.le_of_lt (small1000 (by rw [List.length_append]; show pth.length + 1 + 1 ≤ 1000; omega))) fun hv H8 s9 hhv => ?_
      have s10 : Same H4 H8 := (smNew s8 hp2 _).trans s9
      have d1 := dB_mem hm
      have d2' := dS_mem hmb
      refine ⟨fl, bd, _, Dp.keep s10 hd4, hhv, wB_of hws bd hmb, by omega, by rw [List.length_append, List.length_append]; show pth.length + 1 + 1 + 2 * n ≤ 1000; omega, fun H9 e9 => ?_⟩
      refine ⟨fun b o z => e9 _ _ ((smNew (smNew s6 ht2 _) hp2 _).trans s9 b o z), _, _, rfl⟩
    · rintro σ2 H6 ⟨s6, w5, w6, rfl⟩
      exact ⟨s5.trans (e5.trans s6), _, _, _, _, _, rfl⟩
  · rintro σ H1 ⟨s1, v2, v3, v4, v5, v6, rfl⟩
    exact q H1 s1
theorem c_check_body (T : Top w K mg) : ∀ n, Cal P w K mg base CX0 (n + 4) "check_body" (spCheck K n)
  | 0 => cal_never (f_check_body T) (g_check_body T) (ps := ["body", "path"]) (fun _ _ _ _ _ _ us hl => match us, hl with | [_, _], _ => rfl) fun vs H Q E h => by
      match vs, h with
      | [b, p], h =>
      obtain ⟨fl, l, pth, _, _, _, hn, _⟩ := h
      have := dB_one l
      omega
  | n + 1 => ok_check T (c_check_body T n)
end
end RM

set_option Elab.async false
set_option linter.all false
set_option maxRecDepth 100000
set_option maxHeartbeats 2000000
namespace RM
open PySem PySem.Spec PyProof.Rows L2
section
variable {P : Program} {w : World} {K : PySem.W.Frag} {mg : Str → Option Value} {base : Heap}
/-! ### as_tuples -/
def spAsT (K : PySem.W.Frag) (n : Nat) : Sp := fun vs H Q _ => match vs with
  | [b] => ∃ (fl fi : Bool) (l : List Stm), Dp K H b (seqD fl (encB fi l)) ∧ dB l ≤ n ∧ cB l ≤ 1000 ∧ ∀ v H', Same H H' → Dp K H' v (.tuple (encB false l)) → Q v H'
  | _ => False
theorem sc_as_tuples : FnScope ["body", "found", "statement", "form", "items", "item", "sign"] ["body"] (defScope s_as_tuples) := ⟨rfl, rfl, rfl, by decide +kernel, rfl, by decide +kernel, by decide +kernel⟩
theorem paired_dp2 {H : Hp} : ∀ {ys : List V} {ds : List PyData}, Paired (fun y a => Dp K H y a ∧ noL a = true) ys ds → DpAll K H ys ds
  | _, _, .nil => .nil
  | _, _, .cons h t => .cons h.1 (paired_dp2 t)
theorem ok_as_tuples (T : Top w K mg) {n : Nat} (ih : Cal P w K mg base CX0 (n + 1) "as_tuples" (spAsT K n)) : Cal P w K mg base CX0 (n + 2) "as_tuples" (spAsT K (n + 1)) := by
  refine cal_0 (f_as_tuples T) (g_as_tuples T) sc_as_tuples (fun _ _ _ _ _ _ us hl => match us, hl with | [_], _ => rfl) (fun vs H Q E h => match vs, h with | [_], _ => rfl) (fun cdv A outer s H vs Q E hr h => ?_)
  match vs, h with
  | [b], h =>
  obtain ⟨fl, fi, l, hb, hn, hc, q⟩ := h
  obtain ⟨a, xs, rfl, ha, hx⟩ := seqD_inv hb
  have lx : xs.length = l.length := by rw [DpAll.len hx, encB_map, List.length_map]
  have ll := cB_len l
  refine ⟨_, (pss_cons (ps_set (i := 1) sc_as_tuples.nd rfl (Or.inl rfl) (pe_lst pa_nil))
    (pss_cons (ps_for PassesOwn.never rfl (pi_seqA (pv 0)) (pg_name (i := 2) sc_as_tuples.nd rfl (Or.inl rfl))
      (pss_cons (ps_set (i := 3) sc_as_tuples.nd rfl (Or.inl rfl) (pe_ix ix_kdict (pglR (g_FORMS T)) (pe_ix ix_tup (pv 2) pe_int (fun _ _ => rfl)) (fun _ _ => rfl)))
    (pss_cons (ps_setLc (i := 4) (own := [("item", 5), ("sign", 6)]) rfl sc_as_tuples.nd rfl rfl (sw_true rfl rfl rfl (by decide +kernel)) (pi_zipTS (by rfl) (z_zip T) (pa_cons (pe_slice sl_tup (pv 2) (po_some pe_int) po_none) (pa_cons (pv 3) pa_nil))) (blkOk_by (own := [("item", 5), ("sign", 6)]) (N := ["body", "found", "statement", "form", "items", "item", "sign"]) (sc := defScope s_as_tuples) (by decide +kernel)) (fun _ _ _ _ _ => (pg_tup' (n := 2) (K := K) rfl rfl (pgs_cons (pg_name (i := 5) sc_as_tuples.nd rfl (Or.inl rfl) (Or.inr rfl)) (pgs_cons (pg_name (i := 6) sc_as_tuples.nd rfl (Or.inl rfl) (Or.inr rfl)) pgs_nil)) rfl rfl)) (fun _ _ _ _ _ => pts_nil) (fun _ _ _ _ _ => (pe_ifExp (pt_cmpR op_eq (pv 6) pe_str (nomark _)) (pc ih hr (pa_cons (pv 5) pa_nil)) (pv 5))))
    (pss_one (ps_expr (pe_bm PySem.F.plainAttrs_list PySem.F.slot_list_append PySem.F.type_list_append mt_append (pv 1) (pa_cons (pe_op op_catG (pe_tup (pa_cons (pe_ix ix_tup (pv 2) pe_int (fun _ _ => rfl)) pa_nil)) (pct (z_tuple T) call_tuple_of boot_tuple (pa_cons (pv 4) pa_nil))) pa_nil)))))))
    (pss_one (ps_ret (pct (z_tuple T) call_tuple_of boot_tuple (pa_cons (pv 1) pa_nil)))))), ?_⟩
  refine ⟨(by show 0 ≤ sizeLine; decide), fun fd nfd => ?_⟩
  have s0 := smNew1 nfd (.lst [])
  refine ⟨_, rfl, ?_⟩
  refine seqA_of ha s0 fun J wk => ?_
  refine for_it wk (fun i σ H' => Same H H' ∧ (∃ acc, H' fd = some (.lst acc) ∧ DpAll K H' acc (encB false (l.take i))) ∧ ∃ v2 v3 v4 v5 v6, σ = [some (.ref a), some (.ref fd), v2, v3, v4, v5, v6])
    ⟨s0, ⟨[], upd_same, .nil⟩, _, _, _, _, _, rfl⟩ (fun i σ H' _ h => h.1) ?_ ?_
  · rintro i x σ H1 H2 hi ⟨s1, ⟨acc, hacc, hdp⟩, v2, v3, v4, v5, v6, rfl⟩ ⟨rfl, hx1⟩
    obtain ⟨d, hd1, hd2⟩ := DpAll.getV hx hx1
    obtain ⟨st, hst, rfl⟩ := encB_get hd1
    have hm : st ∈ l := List.mem_of_getElem? hst
    obtain ⟨sa, sxs, rfl, hsa, hsx⟩ := shape_of hd2
    have hl : sxs.length = st.form.cps.size := ShapeS.items hsx
    have i4 := form_five st
    -- form = FORMS[statement[0]]
    refine ⟨_, rfl, _, _, _, _, rfl, rfl, smT s1 hsa, at0, _, _, _, rfl, rfl, kd_form T st, ?_⟩
    -- items = [..]
    refine ⟨_, rfl, _, rfl, _, _, rfl, smT s1 hsa, cut_not, fun p hp => ?_⟩
    rw [cut_tail]
    have s2 : Same H (upd H2 p (.tup sxs)) := smNew s1 hp _
    refine ⟨_, rfl, _, sxs, _, rfl, SqT.of upd_same, fun D nD => ?_⟩
    refine lc_opt (walk_zipTS hl) (fun (d : PyData) y H => Dp K H y d ∧ noL d = true) (fun i => (st.flats ++ st.bodies.map fun b => .tuple (encB false b))[i]?) nD (small1000 (by omega)) (fun H' e => smT e (SqT.of upd_same))
      (fun _ _ _ _ h e => ⟨Dp.keep e h.1, h.2⟩) (fun _ _ _ _ _ h e => ⟨dp_ts (ts_upd _ e trivial) h.1 h.2, h.2⟩) ?_ ?_
    · rintro j x H3 H4 N hj e ⟨t, y, z, rfl, ht, rfl, hy, hz⟩ hk _
      obtain ⟨c, hc, rfl⟩ := Option.map_eq_some_iff.mp hz
      have hs := sign_at hc
      refine ⟨t, _, rfl, SqT.of upd_same, rfl, _, _, rfl, _, _, rfl, rfl, rfl, ?_⟩
      refine yesI ?_
      have s3 : Same H (upd H3 t (.tup [y, .str ⟨#[c]⟩])) := smNew (s2.trans e) ht _
      obtain ⟨d, hd3, hd4⟩ := DpAll.getV hsx hy
      by_cases c98 : c = 98
      · subst c98
        obtain ⟨bd, hbd, hat⟩ := sign98 hs
        rw [hat] at hd3
        obtain rfl := Option.some.inj hd3
        have d1 := dB_mem hm
        have d2 := dS_mem hbd
        have c1 := cB_mem hm
        have c2 := cS_mem hbd
        refine ⟨_, rfl, rfl, _, rfl, ifT (by rw [str_b, sgn]; rfl) ?_⟩
        refine ⟨_, rfl, fi, fi, bd, Dp.keep s3 hd4, by omega, by omega, fun v H5 s5 hv => ?_⟩
        exact hk _ _ _ (hat _) ((smNew1 ht _).trans s5) ⟨hv, noL_encB bd⟩
      · obtain ⟨df, hno, hat⟩ := signFlat hs c98
        rw [hat] at hd3
        obtain rfl := Option.some.inj hd3
        refine ⟨_, rfl, rfl, _, rfl, ifF (by rw [str_b, sgn]; exact decide_eq_false c98) ?_⟩
        exact ⟨_, rfl, hk _ _ _ (hat _) (smNew1 ht _) ⟨Dp.keep s3 hd4, hno⟩⟩
    · intro H3 ys e hD hp'
      rw [hl, ← show st.signs.length = st.form.cps.size by rw [← signs_eq]; rfl, ← items_len st (fun b => .tuple (encB false b)), some_range] at hp'
      have hys := paired_dp2 hp'
      have s4 : Same H2 H3 := fun b o z => e _ _ (smNew1 hp _ b o z)
      have s5 : Same H H3 := s1.trans s4
      -- found.append((statement[0],) + tuple(items))
      refine ⟨_, rfl, .inl ⟨rfl, _, SqL.of (s4 _ _ hacc)⟩, ?_⟩
      refine ⟨_, rfl, _, _, _, _, rfl, rfl, smT s5 hsa, at0, (by show 1 ≤ sizeLine; decide), fun p1 hp1 => ?_⟩
      refine ⟨_, rfl, D, _, rfl, .inl ⟨SqL.of (smNew1 hp1 _ _ _ hD), fun p2 hp2 => ?_⟩⟩
      have s6 : Same H3 (upd (upd H3 p1 (.tup [.str st.word])) p2 (.tup ys)) := smNew (smNew1 hp1 _) hp2 _
      have lys : ys.length ≤ 10 := by
        have e1 := DpAll.len hys
        rw [items_len, ← signs_eq] at e1
        have : st.form.cps.toList.length = st.form.cps.size := rfl
        omega
      refine catA_of (smT (smNew1 hp2 _) (SqT.of upd_same)) (SqT.of upd_same) (Nat.le_of_lt (small1000 (by show 1 + ys.length ≤ 1000; omega))) fun t H4 s7 ht => ?_
      have s8 : Same H3 H4 := s6.trans s7
      have hacc4 := s8 _ _ (s4 _ _ hacc)
      have l1 := (List.getElem?_eq_some_iff.mp hst).1
      refine ⟨fd, acc, .ref t, rfl, rfl, hacc4, small1000 (by have := DpAll.len hdp; rw [encB_map, List.length_map, List.length_take] at this; omega), ?_⟩
      have dpt : Dp K H4 (.ref t) (encS false st) := by
        rw [encS_eq]
        exact .tup ht (.cons (.str _) (by
          have : (st.flats ++ st.bodies.map fun b => seqD false (encB false b)) = (st.flats ++ st.bodies.map fun b => .tuple (encB false b)) := rfl
          rw [this]
          exact DpAll.keep s8 hys))
      have tsF : TS K H4 (upd H4 fd (.lst (acc ++ [.ref t]))) := ts_upd _ hacc4 trivial
      refine ⟨smOut (s5.trans s8) nfd _, ⟨_, upd_same, ?_⟩, _, _, _, _, _, rfl⟩
      rw [take_more hst, encB_map, List.map_append, ← encB_map]
      exact DpAll.snoc (dps_ts tsF (DpAll.keep (s4.trans s8) hdp) (noL_encB _)) (dp_ts tsF dpt (noL_encS st))
  · rintro σ H1 ⟨s1, ⟨acc, hacc, hdp⟩, v2, v3, v4, v5, v6, rfl⟩
    rw [lx, List.take_length] at hdp
    refine ⟨_, rfl, fd, acc, rfl, .inl ⟨SqL.of hacc, fun p hp => ?_⟩⟩
    have s2 : Same H1 (upd H1 p (.tup acc)) := smNew1 hp _
    exact q _ _ (s1.trans s2) (.tup (SqT.of upd_same) (DpAll.keep s2 hdp))
theorem c_as_tuples (T : Top w K mg) : ∀ n, Cal P w K mg base CX0 (n + 1) "as_tuples" (spAsT K n)
  | 0 => cal_never (f_as_tuples T) (g_as_tuples T) (ps := ["body"]) (fun _ _ _ _ _ _ us hl => match us, hl with | [_], _ => rfl) fun vs H Q E h => by
      match vs, h with
      | [b], h =>
      obtain ⟨fl, fi, l, _, hn, _⟩ := h
      have := dB_one l
      omega
  | n + 1 => ok_as_tuples T (c_as_tuples T n)
end
end RM

set_option Elab.async false
set_option linter.all false
set_option maxRecDepth 100000
set_option maxHeartbeats 2000000
namespace RM
open PySem PySem.Spec PyProof.Rows L2
section
variable {P : Program} {w : World} {K : PySem.W.Frag} {mg : Str → Option Value} {base : Heap}
/-! ### all_statements -/
def allD (as : List (List Int × Stm)) : List PyData := as.map fun q => .tuple [pathD q.1, encS false q.2]
theorem noL_allD (as : List (List Int × Stm)) : noLs (allD as) = true := noLs_of fun d h => by
  obtain ⟨q, _, rfl⟩ := List.mem_map.mp h
  show (noL (pathD q.1) && (noL (encS false q.2) && true)) = true
  rw [noL_path, noL_encS]
  rfl
theorem allD_app (a b : List (List Int × Stm)) : allD (a ++ b) = allD a ++ allD b := List.map_append
theorem allD_len (a : List (List Int × Stm)) : (allD a).length = a.length := List.length_map _
def spAll (K : PySem.W.Frag) (n : Nat) : Sp := fun vs H Q _ => match vs with
  | [b, p] => ∃ (l : List Stm) (pth : List Int), Dp K H b (.tuple (encB false l)) ∧ Dp K H p (pathD pth) ∧ dB l ≤ n ∧ cB l ≤ 1000 ∧ pth.length + 2 * n ≤ 1000 ∧
    ∀ r H' ys, Same H H' → H r = none → H' r = some (.lst ys) → DpAll K H' ys (allD (aB pth 0 l)) → Q (.ref r) H'
  | _ => False
theorem sc_all_statements : FnScope ["body", "path", "found", "place", "statement", "here", "number", "inner"] ["body", "path"] (defScope s_all_statements) := ⟨rfl, rfl, rfl, by decide +kernel, rfl, by decide +kernel, by decide +kernel⟩
theorem ok_all (T : Top w K mg) {n : Nat} (ih : Cal P w K mg base CX0 (n + 1) "all_statements" (spAll K n)) : Cal P w K mg base CX0 (n + 2) "all_statements" (spAll K (n + 1)) := by
  refine cal_0 (f_all_statements T) (g_all_statements T) sc_all_statements (fun _ _ _ _ _ _ us hl => match us, hl with | [_, _], _ => rfl) (fun vs H Q E h => match vs, h with | [_, _], _ => rfl) (fun cdv A outer s H vs Q E hr h => ?_)
  match vs, h with
  | [b, p], h =>
  obtain ⟨l, pth, hb, hp, hn, hc, hlen, q⟩ := h
  obtain ⟨a, xs, rfl, ha, hx⟩ := Dp.tup_inv hb
  have lx : xs.length = l.length := by rw [DpAll.len hx, encB_map, List.length_map]
  have ll := cB_len l
  refine ⟨_, (pss_cons (ps_set (i := 2) sc_all_statements.nd rfl (Or.inl rfl) (pe_lst pa_nil))
    (pss_cons (ps_for PassesOwn.never rfl (pi_enumA (by rfl) (z_enumerate T) (pa_cons (pv 0) pa_nil)) (pg_tup rfl (pgs_cons (pg_name (i := 3) sc_all_statements.nd rfl (Or.inl rfl)) (pgs_cons (pg_name (i := 4) sc_all_statements.nd rfl (Or.inl rfl)) pgs_nil)))
      (pss_cons (ps_set (i := 5) sc_all_statements.nd rfl (Or.inl rfl) (pe_op op_catG (pv 1) (pe_tup (pa_cons (pv 3) pa_nil))))
    (pss_cons (ps_expr (pe_bm PySem.F.plainAttrs_list PySem.F.slot_list_append PySem.F.type_list_append mt_append (pv 2) (pa_cons (pe_tup (pa_cons (pv 5) (pa_cons (pv 4) pa_nil))) pa_nil)))
    (pss_one (ps_for PassesOwn.never rfl (pi_enumA (by rfl) (z_enumerate T) (pa_cons (pc (c_bodies_of T) hr (pa_cons (pv 4) pa_nil)) pa_nil)) (pg_tup rfl (pgs_cons (pg_name (i := 6) sc_all_statements.nd rfl (Or.inl rfl)) (pgs_cons (pg_name (i := 7) sc_all_statements.nd rfl (Or.inl rfl)) pgs_nil)))
      (pss_one (ps_set (i := 2) sc_all_statements.nd rfl (Or.inl rfl) (pe_op op_cat (pv 2) (pc ih hr (pa_cons (pv 7) (pa_cons (pe_op op_catG (pv 5) (pe_tup (pa_cons (pv 6) pa_nil))) pa_nil)))))))))))
    (pss_one (ps_ret (pv 2))))), ?_⟩
  refine ⟨(by show 0 ≤ sizeLine; decide), fun fd nfd => ?_⟩
  refine ⟨_, rfl, ?_⟩
  refine enumA_of (.inr ha) (smNew1 nfd _) fun J wk => ?_
  refine for_it wk (fun i σ H' => Same H H' ∧ ∃ g acc, H g = none ∧ H' g = some (.lst acc) ∧ DpAll K H' acc (allD (aB pth 0 (l.take i))) ∧ ∃ v3 v4 v5 v6 v7, σ = [some (.ref a), some p, some (.ref g), v3, v4, v5, v6, v7])
    ⟨smNew1 nfd _, fd, [], nfd, upd_same, .nil, _, _, _, _, _, rfl⟩ (fun i σ H' _ h => h.1) ?_ ?_
  · rintro i x σ H1 H2 hi ⟨s1, g, acc, ng, hacc, hdp, v3, v4, v5, v6, v7, rfl⟩ ⟨t, y, z, rfl, ht, rfl, hy, hz⟩
    obtain rfl : V.int (i : Nat) = y := Option.some.inj hy
    obtain ⟨d, hd1, hd2⟩ := DpAll.getV hx hz
    obtain ⟨st, hst, rfl⟩ := encB_get hd1
    have hm : st ∈ l := List.mem_of_getElem? hst
    have l1 := (List.getElem?_eq_some_iff.mp hst).1
    have lt := cB_mem hm
    have s2 := smNew s1 ht (.tup [.int (i : Nat), z])
    refine ⟨t, _, rfl, SqT.of upd_same, rfl, _, _, rfl, _, _, rfl, rfl, ?_⟩
    -- here = path + (place,)
    obtain ⟨pa, rfl, hpa⟩ := path_inv (Dp.keep s2 hp)
    refine ⟨_, rfl, _, rfl, (by show 1 ≤ sizeLine; decide), fun p1 hp1 => ?_⟩
    refine path_snoc (smT (smNew1 hp1 _) hpa) (SqT.of upd_same) (Nat.le_of_lt (small1000 (by omega))) fun here H3 s3 hh => ?_
    have t3 : Same H1 H3 := (smNew (smNew1 ht _) hp1 _).trans s3
    have s4 : Same H H3 := s1.trans t3
    -- found.append((here, statement))
    refine ⟨_, rfl, .inl ⟨rfl, _, SqL.of (t3 _ _ hacc)⟩, ?_⟩
    refine ⟨_, rfl, _, rfl, (by show 2 ≤ sizeLine; decide), fun p2 hp2 => ?_⟩
    have t5 := smNew t3 hp2 (.tup [here, z])
    have lacc : acc.length = (aB pth 0 (l.take i)).length := by rw [DpAll.len hdp, allD_len]
    have lim : ∀ j, (aB pth 0 (l.take j)).length ≤ 1000 := fun j => by
      have e : aB pth 0 l = aB pth 0 (l.take j) ++ aB pth (0 + (l.take j).length) (l.drop j) := by rw [← aB_app, List.take_append_drop]
      have e2 := congrArg List.length e
      rw [aB_len, List.length_append] at e2
      omega
    have lim0 := lim i
    refine ⟨g, acc, _, rfl, rfl, t5 _ _ hacc, small1000 (by omega), ?_⟩
    obtain ⟨H5, e5⟩ : ∃ H5, H5 = upd (upd H3 p2 (.tup [here, z])) g (.lst (acc ++ [.ref p2])) := ⟨_, rfl⟩
    rw [← e5]
    have ts5 : TS K (upd H3 p2 (.tup [here, z])) H5 := by rw [e5]; exact ts_upd _ (t5 _ _ hacc) trivial
    have hg5 : H5 g = some (.lst (acc ++ [.ref p2])) := by rw [e5]; exact upd_same
    have s5 : Same H H5 := by rw [e5]; exact smOut (smNew s4 hp2 _) ng _
    have dh5 : Dp K H5 here (pathD (pth ++ [(i : Int)])) := dp_ts ts5 (Dp.keep (smNew1 hp2 _) hh) (noL_path _)
    have dq : Dp K (upd H3 p2 (.tup [here, z])) (.ref p2) (.tuple [pathD (pth ++ [(i : Int)]), encS false st]) :=
      .tup (SqT.of upd_same) (.cons (Dp.keep (smNew1 hp2 _) hh) (.cons (Dp.keep (smNew s4 hp2 _) hd2) .nil))
    have d5 : DpAll K H5 (acc ++ [.ref p2]) (allD (aB pth 0 (l.take i) ++ (pth ++ [(i : Int)], st) :: aBs (pth ++ [(i : Int)]) 0 (st.bodies.take 0))) := by
      rw [allD_app]
      exact dps_ts ts5 (DpAll.snoc (DpAll.keep t5 hdp) dq) (noLs_app (noL_allD _) (by
        show (noL (.tuple [pathD (pth ++ [(i : Int)]), encS false st]) && true) = true
        show ((noL (pathD (pth ++ [(i : Int)])) && (noL (encS false st) && true)) && true) = true
        rw [noL_path, noL_encS]
        rfl))
    -- for number, inner in enumerate(bodies_of(statement))
    refine ⟨_, rfl, false, st, Dp.keep s5 hd2, fun pb H6 ys e6 npb hpb hys => ?_⟩
    refine enumA_of (.inl (SqL.of hpb)) (Same.refl _) fun J2 wk2 => ?_
    have ly : ys.length = st.bodies.length := by rw [DpAll.len hys, List.length_map]
    refine for_it wk2 (fun j σ H' => Same H6 H' ∧ ∃ g2 acc2, H g2 = none ∧ H' g2 = some (.lst acc2) ∧ DpAll K H' acc2 (allD (aB pth 0 (l.take i) ++ (pth ++ [(i : Int)], st) :: aBs (pth ++ [(i : Int)]) 0 (st.bodies.take j))) ∧
        ∃ v6 v7, σ = [some (.ref a), some (.ref pa), some (.ref g2), some (.int (i : Nat)), some z, some here, v6, v7])
      ⟨Same.refl H6, g, _, ng, e6 _ _ hg5, DpAll.keep e6 d5, _, _, rfl⟩ (fun _ _ _ _ h => h.1) ?_ ?_
    · rintro j x2 σ2 H7 H8 hj ⟨s7, g2, acc2, ng2, hacc2, hdp2, w6, w7, rfl⟩ ⟨t2, y2, z2, rfl, ht2, rfl, hy2, hz2⟩
      obtain rfl : V.int (j : Nat) = y2 := Option.some.inj hy2
      obtain ⟨d2, hd3, hd4⟩ := DpAll.getV hys hz2
      rw [List.getElem?_map] at hd3
      obtain ⟨bd, hbd, rfl⟩ := Option.map_eq_some_iff.mp hd3
      have hmb : bd ∈ st.bodies := List.mem_of_getElem? hbd
      have t8 := smNew1 ht2 (.tup [.int (j : Nat), z2])
      refine ⟨t2, _, rfl, SqT.of upd_same, rfl, _, _, rfl, _, _, rfl, rfl, ?_⟩
      -- found = found + all_statements(inner, here + (number,))
      have s8 : Same H5 (upd H7 t2 (.tup [.int (j : Nat), z2])) := (e6.trans s7).trans t8
      obtain ⟨ha2, rfl, hha⟩ := path_inv (Dp.keep s8 dh5)
      refine ⟨_, rfl, _, rfl, _, rfl, _, rfl, (by show 1 ≤ sizeLine; decide), fun p3 hp3 => ?_⟩
      refine path_snoc (smT (smNew1 hp3 _) hha) (SqT.of upd_same) (Nat.le_of_lt (small1000 (by rw [List.length_append]; show pth.length + 1 + 1 ≤ 1000; omega))) fun hv H9 s9 hhv => ?_
      have t9 : Same H7 H9 := (smNew t8 hp3 _).trans s9
      have d1 := dB_mem hm
      have d2' := dS_mem hmb
      have c2 := cS_mem hmb
      have hd5 := Dp.keep (e6.trans (s7.trans t9)) hd4
      refine ⟨bd, _, hd5, hhv, by omega, by omega, by rw [List.length_append, List.length_append]; show pth.length + 1 + 1 + 2 * n ≤ 1000; omega, fun r H10 zs e10 nr hr2 hzs => ?_⟩
      have t10 : Same H7 H10 := t9.trans e10
      have lz : zs.length = cB bd := by rw [DpAll.len hzs, allD_len, aB_len]
      have la2 : acc2.length ≤ 1000 := by
        have e1 := DpAll.len hdp2
        rw [allD_len] at e1
        have e2 : aB pth 0 (l.take (i + 1)) = aB pth 0 (l.take i) ++ (pth ++ [(i : Int)], st) :: aBs (pth ++ [(i : Int)]) 0 st.bodies := by rw [aB_take hst, aS_eq]
        have e3 : aBs (pth ++ [(i : Int)]) 0 st.bodies = aBs (pth ++ [(i : Int)]) 0 (st.bodies.take j) ++ aBs (pth ++ [(i : Int)]) (0 + (st.bodies.take j).length) (st.bodies.drop j) := by rw [← aBs_app, List.take_append_drop]
        have e4 := lim (i + 1)
        rw [e2, e3, List.length_append, List.length_cons, List.length_append] at e4
        rw [List.length_append, List.length_cons] at e1
        omega
      refine ⟨g2, r, acc2, zs, rfl, rfl, t10 _ _ hacc2, hr2, Nat.le_of_lt (Nat.lt_of_le_of_lt (show acc2.length + zs.length ≤ 2000 by omega) (by decide)), fun pn hpn => ?_⟩
      have t11 := smNew t10 hpn (.lst (acc2 ++ zs))
      refine ⟨s7.trans t11, pn, _, ?_, upd_same, ?_, _, _, rfl⟩
      · exact (s5.trans (e6.trans (s7.trans t10))).free hpn
      · rw [aBs_take hbd, ← List.cons_append, ← List.append_assoc, allD_app]
        exact DpAll.app (DpAll.keep t11 hdp2) (DpAll.keep (smNew1 hpn _) hzs)
    · rintro σ2 H7 ⟨s7, g2, acc2, ng2, hacc2, hdp2, w6, w7, rfl⟩
      rw [ly, List.take_length, ← aS_eq, ← aB_take hst] at hdp2
      exact ⟨s5.trans (e6.trans s7), g2, acc2, ng2, hacc2, hdp2, _, _, _, _, _, rfl⟩
  · rintro σ H1 ⟨s1, g, acc, ng, hacc, hdp, v3, v4, v5, v6, v7, rfl⟩
    rw [lx, List.take_length] at hdp
    exact ⟨_, rfl, q g H1 acc s1 ng hacc hdp⟩
theorem c_all_statements (T : Top w K mg) : ∀ n, Cal P w K mg base CX0 (n + 1) "all_statements" (spAll K n)
  | 0 => cal_never (f_all_statements T) (g_all_statements T) (ps := ["body", "path"]) (fun _ _ _ _ _ _ us hl => match us, hl with | [_, _], _ => rfl) fun vs H Q E h => by
      match vs, h with
      | [b, p], h =>
      obtain ⟨l, pth, _, _, hn, _⟩ := h
      have := dB_one l
      omega
  | n + 1 => ok_all T (c_all_statements T n)
/-! ### depth_of -/
def spDepth (K : PySem.W.Frag) (n : Nat) : Sp := fun vs H Q _ => match vs with
  | [b] => ∃ (l : List Stm), Dp K H b (.tuple (encB false l)) ∧ dB l ≤ n ∧ ∀ H', Same H H' → Q (.int (dB l : Nat)) H'
  | _ => False
theorem sc_depth_of : FnScope ["body", "deepest", "statement", "inner"] ["body"] (defScope s_depth_of) := ⟨rfl, rfl, rfl, by decide +kernel, rfl, by decide +kernel, by decide +kernel⟩
theorem ok_depth (T : Top w K mg) {n : Nat} (ih : Cal P w K mg base CX0 (n + 1) "depth_of" (spDepth K n)) : Cal P w K mg base CX0 (n + 2) "depth_of" (spDepth K (n + 1)) := by
  refine cal_0 (f_depth_of T) (g_depth_of T) sc_depth_of (fun _ _ _ _ _ _ us hl => match us, hl with | [_], _ => rfl) (fun vs H Q E h => match vs, h with | [_], _ => rfl) (fun cdv A outer s H vs Q E hr h => ?_)
  match vs, h with
  | [b], h =>
  obtain ⟨l, hb, hn, q⟩ := h
  obtain ⟨a, xs, rfl, ha, hx⟩ := Dp.tup_inv hb
  have lx : xs.length = l.length := by rw [DpAll.len hx, encB_map, List.length_map]
  refine ⟨_, (pss_cons (ps_set (i := 1) sc_depth_of.nd rfl (Or.inl rfl) pe_int)
    (pss_cons (ps_for PassesOwn.never rfl (pi_seqA (pv 0)) (pg_name (i := 2) sc_depth_of.nd rfl (Or.inl rfl))
      (pss_one (ps_for PassesOwn.never rfl (pi_seqA (pc (c_bodies_of T) hr (pa_cons (pv 2) pa_nil))) (pg_name (i := 3) sc_depth_of.nd rfl (Or.inl rfl))
      (pss_one (ps_set (i := 1) sc_depth_of.nd rfl (Or.inl rfl) (pcb (z_max T) (call_max2 rfl) boot_max (pa_cons (pv 1) (pa_cons (pc ih hr (pa_cons (pv 3) pa_nil)) pa_nil))))))))
    (pss_one (ps_ret (pe_op op_add (pv 1) pe_int))))), ?_⟩
  refine ⟨_, rfl, ?_⟩
  refine seqA_of (.inr ha) (Same.refl _) fun J wk => ?_
  refine for_it wk (fun i σ H' => Same H H' ∧ ∃ v2 v3, σ = [some (.ref a), some (.int ((dB (l.take i) : Nat) - 1 : Int)), v2, v3]) ⟨Same.refl H, none, none, rfl⟩ (fun i σ H' _ h => h.1) ?_ ?_
  · rintro i x σ H1 H2 hi ⟨s1, v2, v3, rfl⟩ ⟨rfl, hx1⟩
    obtain ⟨d, hd1, hd2⟩ := DpAll.getV hx hx1
    obtain ⟨st, hst, rfl⟩ := encB_get hd1
    have hm : st ∈ l := List.mem_of_getElem? hst
    have d1 := dB_mem hm
    refine ⟨_, rfl, false, st, Dp.keep s1 hd2, fun pb H3 ys e3 npb hpb hys => ?_⟩
    have ly : ys.length = st.bodies.length := by rw [DpAll.len hys, List.length_map]
    refine seqA_of (.inl (SqL.of hpb)) (Same.refl _) fun J2 wk2 => ?_
    have o1 := dB_one (l.take i)
    refine for_it wk2 (fun j σ H' => Same H3 H' ∧ ∃ v3, σ = [some (.ref a), some (.int ((max (dB (l.take i) - 1) (dBs (st.bodies.take j)) : Nat) : Int)), some x, v3]) ⟨Same.refl H3, v3, ?_⟩ (fun _ _ _ _ h => h.1) ?_ ?_
    · have e : ((max (dB (l.take i) - 1) (dBs (st.bodies.take 0)) : Nat) : Int) = ((dB (l.take i) : Nat) : Int) - 1 := by
        show ((max (dB (l.take i) - 1) 0 : Nat) : Int) = _
        omega
      rw [e]
      rfl
    · rintro j x2 σ2 H4 H5 hj ⟨s4, w3, rfl⟩ ⟨rfl, hx2⟩
      obtain ⟨d2, hd3, hd4⟩ := DpAll.getV hys hx2
      rw [List.getElem?_map] at hd3
      obtain ⟨bd, hbd, rfl⟩ := Option.map_eq_some_iff.mp hd3
      have d2' := dS_mem (List.mem_of_getElem? hbd)
      have hd5 := Dp.keep (e3.trans s4) hd4
      refine ⟨_, rfl, _, rfl, bd, hd5, by omega, fun H6 e6 => ?_⟩
      refine ⟨_, _, rfl, s4.trans e6, some x2, ?_⟩
      rw [take_more hbd, dBs_snoc]
      have e : (if ((dB bd : Nat) : Int) > ((max (dB (l.take i) - 1) (dBs (st.bodies.take j)) : Nat) : Int) then ((dB bd : Nat) : Int) else ((max (dB (l.take i) - 1) (dBs (st.bodies.take j)) : Nat) : Int)) =
          ((max (dB (l.take i) - 1) (max (dBs (st.bodies.take j)) (dB bd)) : Nat) : Int) := by
        split <;> omega
      rw [← e]
      rfl
    · rintro σ2 H4 ⟨s4, w3, rfl⟩
      refine ⟨s1.trans (e3.trans s4), some x, w3, ?_⟩
      rw [ly, List.take_length, ← dS_eq, take_more hst, dB_snoc]
      have e : ((max (dB (l.take i) - 1) (dS st) : Nat) : Int) = ((max (dB (l.take i)) (dS st + 1) : Nat) : Int) - 1 := by omega
      rw [e]
  · rintro σ H1 ⟨s1, v2, v3, rfl⟩
    refine ⟨_, rfl, _, _, rfl, rfl, ?_⟩
    have e : V.int (((dB (l.take xs.length) : Nat) : Int) - 1 + 1) = V.int ((dB l : Nat) : Int) := by
      rw [lx, List.take_length]
      exact congrArg V.int (by omega)
    show Q (V.int (((dB (l.take xs.length) : Nat) : Int) - 1 + 1)) H1
    rw [e]
    exact q H1 s1
theorem c_depth_of (T : Top w K mg) : ∀ n, Cal P w K mg base CX0 (n + 1) "depth_of" (spDepth K n)
  | 0 => cal_never (f_depth_of T) (g_depth_of T) (ps := ["body"]) (fun _ _ _ _ _ _ us hl => match us, hl with | [_], _ => rfl) fun vs H Q E h => by
      match vs, h with
      | [b], h =>
      obtain ⟨l, _, hn, _⟩ := h
      have := dB_one l
      omega
  | n + 1 => ok_depth T (c_depth_of T n)
end
end RM

set_option Elab.async false
set_option linter.all false
set_option maxRecDepth 100000
set_option maxHeartbeats 2000000
namespace RM
open PySem PySem.Spec PyProof.Rows L2
section
variable {P : Program} {w : World} {K : PySem.W.Frag} {mg : Str → Option Value} {base : Heap}
/-! ### check_size -/
def spSize (K : PySem.W.Frag) : Sp := fun vs H Q _ => match vs with
  | [b] => ∃ (l : List Stm), Dp K H b (.tuple (encB false l)) ∧ dB l ≤ 4 ∧ cB l ≤ 60 ∧ ∀ H', Same H H' → Q .non H'
  | _ => False
theorem sc_check_size : FnScope ["body"] ["body"] (defScope s_check_size) := ⟨rfl, rfl, rfl, by decide +kernel, rfl, by decide +kernel, by decide +kernel⟩
theorem path0 {K : PySem.W.Frag} {H : Hp} {a : Addr} (h : SqT K H a []) : Dp K H (.ref a) (pathD []) := .tup h .nil
theorem c_check_size (T : Top w K mg) : Cal P w K mg base CX0 6 "check_size" (spSize K) := by
  refine cal_0 (f_check_size T) (g_check_size T) sc_check_size (fun _ _ _ _ _ _ us hl => match us, hl with | [_], _ => rfl) (fun vs H Q E h => match vs, h with | [_], _ => rfl) (fun cdv A outer s H vs Q E hr h => ?_)
  match vs, h with
  | [b], h =>
  obtain ⟨l, hb, hd, hc, q⟩ := h
  refine ⟨_, (pss_cons (ps_if (pt_cmpR op_gt (pcb (z_len T) call_len_seq boot_len (pa_cons (pc (c_all_statements T 4) hr (pa_cons (pv 0) (pa_cons (pe_tup pa_nil) pa_nil))) pa_nil)) (pglI (i_MOST_programs T)) (nomark _))
      (pss_one ps_never)
      pss_nil)
    (pss_one (ps_if (pt_cmpR op_gt (pc (c_depth_of T 4) hr (pa_cons (pv 0) pa_nil)) (pglI (i_DEEPEST T)) (nomark _))
      (pss_one ps_never)
      pss_nil))), ?_⟩
  refine ⟨_, rfl, (by show 0 ≤ sizeLine; decide), fun p hp => ?_⟩
  have s1 : Same H (upd H p (.tup [])) := smNew1 hp _
  refine ⟨l, [], Dp.keep s1 hb, path0 (SqT.of upd_same), hd, by omega, by show 0 + 2 * 4 ≤ 1000; omega, fun r H1 ys e1 hr1 hr2 hys => ?_⟩
  have hl : ys.length = cB l := by rw [DpAll.len hys, allD_len, aB_len]
  refine ⟨r, ys, rfl, .inl (SqL.of hr2), _, _, rfl, rfl, _, rfl, ?_⟩
  refine ifF (decide_eq_false (by show ¬ ((60 : Int) < (ys.length : Nat)); omega)) ?_
  have s2 : Same H H1 := s1.trans e1
  refine ⟨_, rfl, l, Dp.keep s2 hb, hd, fun H2 s3 => ?_⟩
  refine ⟨_, _, rfl, rfl, _, rfl, ?_⟩
  refine ifF (decide_eq_false (by show ¬ ((4 : Int) < (dB l : Nat)); omega)) ?_
  exact q H2 (s2.trans s3)
end
end RM

set_option Elab.async false
set_option linter.all false
set_option maxRecDepth 100000
set_option maxHeartbeats 2000000
namespace RM
open PySem PySem.Spec PyProof.Rows L2
section
variable {P : Program} {w : World} {K : PySem.W.Frag} {mg : Str → Option Value} {base : Heap}
/-! ### Program -/
def PrgAt (K : PySem.W.Frag) (H : Hp) (a : Addr) (l : List Stm) : Prop := ∃ dx v, H a = some (.ins (He.ga K "Program") dx [("body", v)]) ∧ Dp K H v (.tuple (encB false l))
theorem PrgAt.keep {H H' : Hp} {a : Addr} {l : List Stm} (e : Same H H') (p : PrgAt K H a l) : PrgAt K H' a l := let ⟨dx, v, h, d⟩ := p; ⟨dx, v, e _ _ h, Dp.keep e d⟩
def spInit (K : PySem.W.Frag) : Sp := fun vs H Q _ => match vs with
  | [x, b] => ∃ a dx fl l, x = .ref a ∧ H a = some (.ins (He.ga K "Program") dx []) ∧ Dp K H b (seqD fl (encB fl l)) ∧ wB l = true ∧ dB l ≤ 4 ∧ cB l ≤ 60 ∧
    ∀ H', (∀ b u, b ≠ a → H b = some u → H' b = some u) → PrgAt K H' a l → Q .non H'
  | _ => False
theorem sc_Program_init : FnScope ["self", "body"] ["self", "body"] (defScope s_Program_init) := ⟨rfl, rfl, rfl, by decide +kernel, rfl, by decide +kernel, by decide +kernel⟩
theorem c_Program_init (T : Top w K mg) : Mak P w K mg base CX0 9 "Program" (He.ga K "Program") (spInit K) := by
  refine mak_0 (f_Program_init T) (mk_Program T) (g_Program T) sc_Program_init (fun _ _ _ _ _ _ us hl => match us, hl with | [_, _], _ => rfl) (fun vs H Q E h => match vs, h with | [_, _], _ => rfl) (fun cdv A outer s H vs Q E hr h => ?_)
  match vs, h with
  | [x, b], h =>
  obtain ⟨a, dx, fl, l, rfl, ha, hb, hw, hd, hc, q⟩ := h
  obtain ⟨b, xs, rfl, hb1, hb2⟩ := seqD_inv hb
  refine ⟨_, (pss_cons (ps_if (pt_not (pt_val (pcb (z_isinstance T) call_isiT boot_isinstance (pa_cons (pv 1) (pa_cons (pe_tup (pa_cons (pty (z_list T) boot_list) (pa_cons (pty (z_tuple T) boot_tuple) pa_nil))) pa_nil)))))
      (pss_one ps_never)
      pss_nil)
    (pss_cons (ps_expr (pc (c_check_body T 4) hr (pa_cons (pv 1) (pa_cons (pe_tup pa_nil) pa_nil))))
    (pss_cons (ps_fld (pv 0) (pc (c_as_tuples T 4) hr (pa_cons (pv 1) pa_nil)) rfl)
    (pss_one (ps_expr (pc (c_check_size T) hr (pa_cons (pe_fld (pv 0) rfl) pa_nil))))))), ?_⟩
  refine ⟨_, rfl, (by show 2 ≤ sizeLine; decide), fun p hp => ?_⟩
  have s1 : Same H (upd H p (.tup [.ty "list", .ty "tuple"])) := smNew1 hp _
  obtain ⟨ty, ht, hk⟩ := ty_seq hb1 s1
  refine ⟨_, p, _, ty, _, true, rfl, upd_same, .cons (.ty _) (.cons (.ty _) .nil), ht, hk, _, rfl, ?_⟩
  refine ifF rfl ?_
  refine ⟨_, rfl, (by show 0 ≤ sizeLine; decide), fun p2 hp2 => ?_⟩
  have s2 := smNew s1 hp2 (.tup [])
  refine ⟨fl, l, [], Dp.keep s2 hb, path0 (SqT.of upd_same), hw, hd, by show 0 + 2 * 4 ≤ 1000; omega, fun H3 s3 => ?_⟩
  have s4 : Same H H3 := s2.trans s3
  refine ⟨_, rfl, fl, fl, l, Dp.keep s4 hb, hd, by omega, fun v H4 s5 hv => ?_⟩
  have s6 := s4.trans s5
  have ha4 := s6 _ _ ha
  refine ⟨_, rfl, a, _, dx, [], rfl, ha4, k_Program T, na_Program_body T, by decide, ?_⟩
  have ts : TS K H4 (upd H4 a (.ins (He.ga K "Program") dx [("body", v)])) := ts_upd _ ha4 trivial
  have hv5 := dp_ts ts hv (noL_tuple (noL_encB l))
  refine ⟨_, rfl, a, _, dx, _, v, rfl, upd_same, k_Program T, na_Program_body T, rfl, l, hv5, hd, hc, fun H6 s7 => ?_⟩
  refine q H6 (fun b u hb hu => s7 _ _ ?_) ⟨dx, v, s7 _ _ upd_same, Dp.keep s7 hv5⟩
  rw [upd_ne hb]
  exact s6 _ _ hu
/-! ### == -/
def spPEq (K : PySem.W.Frag) : Sp := fun vs H Q _ => match vs with
  | [x, y] => ∃ a b l m, x = .ref a ∧ y = .ref b ∧ PrgAt K H a l ∧ PrgAt K H b m ∧ wB l = true ∧ wB m = true ∧ dB l ≤ 4 ∧ dB m ≤ 4 ∧ Q (.bl (PyData.eqv (.tuple (encB false l)) (.tuple (encB false m)))) H
  | _ => False
theorem sc_Program_eq : FnScope ["self", "other"] ["self", "other"] (defScope s_Program_eq) := ⟨rfl, rfl, rfl, by decide +kernel, rfl, by decide +kernel, by decide +kernel⟩
theorem c_Program_eq (T : Top w K mg) : Own P w K mg base 1 (He.ga K "Program") "__eq__" (spPEq K) := by
  refine own_0 (f_Program_eq T) (spc_Program_eq T) sc_Program_eq (fun _ _ _ _ _ _ us hl => match us, hl with | [_, _], _ => rfl) (fun vs H Q E h => match vs, h with | [_, _], _ => rfl) (fun cdv A outer s H vs Q E hr h => ?_)
  match vs, h with
  | [x, y], h =>
  obtain ⟨a, b, l, m, rfl, rfl, ⟨dx, v, ha, hv⟩, ⟨dy, u, hb, hu⟩, wl, wm, hl, hm, q⟩ := h
  refine ⟨_, (pss_cons (ps_if (pt_not (pt_val (pcb (z_isinstance T) call_isi boot_isinstance (pa_cons (pv 1) (pa_cons (pglR (g_Program T)) pa_nil)))))
      (pss_one ps_never)
      pss_nil)
    (pss_one (ps_ret (pe_cmpR (op_eqD (room64 hr)) (pe_fld (pv 0) rfl) (pe_fld (pv 1) rfl) (nomark _))))), ?_⟩
  refine ⟨_, rfl, _, _, _, _, true, rfl, .own _, .base (insB_ty (ins_Program T) (k_Program T) hb), kitC_ok (kit_Program_Program T), ?_⟩
  refine ⟨_, rfl, ifF rfl ?_⟩
  refine ⟨_, rfl, a, _, dx, _, v, rfl, ha, k_Program T, na_Program_body T, rfl, ?_⟩
  refine ⟨_, rfl, b, _, dy, _, u, rfl, hb, k_Program T, na_Program_body T, rfl, ?_⟩
  exact ⟨_, _, hv, hu, shaped_encB (fl := false) wl hl, shaped_encB (fl := false) wm hm, q⟩
end
end RM

set_option Elab.async false
set_option linter.all false
set_option maxRecDepth 100000
set_option maxHeartbeats 2000000
namespace RM
open PySem PySem.Spec PyProof.Rows L2
section
variable {P : Program} {w : World} {K : PySem.W.Frag} {mg : Str → Option Value} {base : Heap}
/-! ### reads, keys_of, variables -/
def readOf (q : List Int × Stm) : Option (List Int × Str) := match q.2 with | .read _ k => some (q.1, k) | _ => none
def readsOf (l : List Stm) : List (List Int × Str) := (aB [] 0 l).filterMap readOf
def readD (r : List Int × Str) : PyData := .tuple [pathD r.1, .str r.2]
theorem noL_readD (r : List Int × Str) : noL (readD r) = true := by
  show (noL (pathD r.1) && (noL (.str r.2) && true)) = true
  rw [noL_path]
  rfl
theorem filterMap_at {α β : Type} (l : List α) (f : α → Option β) : (List.range l.length).filterMap (fun i => (l[i]?).bind f) = l.filterMap f := by
  have := congrArg (List.filterMap f) (some_range l)
  rw [List.filterMap_filterMap] at this
  exact this
def spReads (K : PySem.W.Frag) : Sp := fun vs H Q _ => match vs with
  | [x] => ∃ a l, x = .ref a ∧ PrgAt K H a l ∧ dB l ≤ 4 ∧ cB l ≤ 1000 ∧
    ∀ p H' ys, Same H H' → H p = none → H' p = some (.lst ys) → DpAll K H' ys ((readsOf l).map readD) → Q (.ref p) H'
  | _ => False
theorem sc_Program_reads : FnScope ["self", "path", "one"] ["self"] (defScope s_Program_reads) := ⟨rfl, rfl, rfl, by decide +kernel, rfl, by decide +kernel, by decide +kernel⟩
theorem paired_map {K : PySem.W.Frag} {H : Hp} {α : Type} {f : α → PyData} : ∀ {ys : List V} {l : List α}, Paired (fun y r => Dp K H y (f r)) ys l → DpAll K H ys (l.map f)
  | _, _, .nil => .nil
  | _, _, .cons h t => .cons h (paired_map t)
theorem c_Program_reads (T : Top w K mg) : Met P w K mg base CX0 6 (He.ga K "Program") "reads" (spReads K) := by
  refine met_0 (f_Program_reads T) (k_Program T) (me_Program_reads T) sc_Program_reads (fun _ _ _ _ _ _ us hl => match us, hl with | [_], _ => rfl) (fun vs H Q E h => match vs, h with | [_], _ => rfl) (fun cdv A outer s H vs Q E hr h => ?_)
  match vs, h with
  | [x], h =>
  obtain ⟨a, l, rfl, ⟨dx, v, ha, hv⟩, hd, hc, q⟩ := h
  refine ⟨_, (pss_one (ps_ret (pe_lc (own := [("path", 1), ("one", 2)]) rfl sc_Program_reads.nd (pi_seqA (pc (c_all_statements T 4) hr (pa_cons (pe_fld (pv 0) rfl) (pa_cons (pe_tup pa_nil) pa_nil)))) (blkOk_by (own := [("path", 1), ("one", 2)]) (N := ["self", "path", "one"]) (sc := defScope s_Program_reads) (by decide +kernel)) (fun _ _ _ _ _ => (pg_tup' (n := 2) (K := K) rfl rfl (pgs_cons (pg_name (i := 1) sc_Program_reads.nd rfl (Or.inl rfl) (Or.inr rfl)) (pgs_cons (pg_name (i := 2) sc_Program_reads.nd rfl (Or.inl rfl) (Or.inr rfl)) pgs_nil)) rfl rfl)) (fun _ _ _ _ _ => (pts_one (pt_cmpR op_eq (pe_ix (ix_tup' (K := K) rfl) (pv 2) pe_int (fun _ _ => rfl)) pe_str (nomark _)))) (fun _ _ _ _ _ => (pe_tup (pa_cons (pv 1) (pa_cons (pe_ix (ix_tup' (K := K) rfl) (pv 2) pe_int (fun _ _ => rfl)) pa_nil))))))), ?_⟩
  refine ⟨_, rfl, a, _, dx, _, v, rfl, ha, k_Program T, na_Program_body T, rfl, (by show 0 ≤ sizeLine; decide), fun p hp => ?_⟩
  have s1 : Same H (upd H p (.tup [])) := smNew1 hp _
  refine ⟨l, [], Dp.keep s1 hv, path0 (SqT.of upd_same), hd, hc, by show 0 + 2 * 4 ≤ 1000; omega, fun r H1 ys e1 hr1 hr2 hys => ?_⟩
  have s2 : Same H H1 := s1.trans e1
  have hl : ys.length = (aB [] 0 l).length := by rw [DpAll.len hys, allD_len]
  have hl2 : ys.length ≤ 1000 := by rw [hl, aB_len]; exact hc
  refine seqA_of (.inl (SqL.of hr2)) (Same.refl _) fun J wk => ?_
  intro D nD
  refine lc_opt wk (fun (r : List Int × Str) y H => Dp K H y (readD r)) (fun i => ((aB [] 0 l)[i]?).bind readOf) nD (small1000 hl2) (fun H' e => e) (fun _ _ _ _ h e => Dp.keep e h)
    (fun r _ _ _ _ h e => dp_ts (ts_upd _ e trivial) h (noL_readD r)) ?_ ?_
  · rintro i x H2 H3 N hi e ⟨rfl, hx⟩ hk hno
    obtain ⟨d, hd1, hd2⟩ := DpAll.getV hys hx
    unfold allD at hd1
    rw [List.getElem?_map] at hd1
    obtain ⟨⟨pth, st⟩, hq, rfl⟩ := Option.map_eq_some_iff.mp hd1
    obtain ⟨t, zs, rfl, ht, hz⟩ := Dp.tup_inv (Dp.keep e hd2)
    obtain ⟨z1, r1, rfl, hz1, hz⟩ := DpAll.cons_inv hz
    obtain ⟨z2, r2, rfl, hz2, hz⟩ := DpAll.cons_inv hz
    obtain rfl := DpAll.nil_inv hz
    obtain ⟨sa, sxs, rfl, hsa, hsx⟩ := shape_of hz2
    refine ⟨t, _, rfl, ht, rfl, _, _, rfl, _, _, rfl, rfl, rfl, ?_⟩
    refine ⟨_, rfl, _, _, _, _, rfl, rfl, hsa, at0, rfl, _, rfl, ?_⟩
    by_cases hw : st.word = "read"
    · obtain ⟨v, k, rfl⟩ := (word_read st).mp hw
      refine ifT (decide_eq_true (congrArg V.str hw)) ?_
      obtain ⟨v1, r3, rfl, h1, h2⟩ := DpAll.cons_inv hsx
      obtain ⟨v2, r4, rfl, h3, h4⟩ := DpAll.cons_inv h2
      obtain rfl := Dp.str_inv h3
      refine ⟨_, rfl, _, rfl, _, _, _, _, rfl, rfl, hsa, at2, (by show 2 ≤ sizeLine; decide), fun p hp => ?_⟩
      refine hk _ _ (pth, k) (by rw [hq]; rfl) (smNew1 hp _) ?_
      exact .tup (SqT.of upd_same) (.cons (Dp.keep (smNew1 hp _) hz1) (.cons (.str _) .nil))
    · refine ifF (decide_eq_false fun e => hw (V.str.inj e)) ?_
      refine hno ?_ _ (Same.refl _)
      rw [hq]
      cases st <;> first | rfl | exact absurd rfl hw
  · intro H3 zs e hD hp'
    rw [hl, filterMap_at] at hp'
    exact q D H3 zs (s2.trans e) (s2.free nD) hD (paired_map hp')
end
end RM

set_option Elab.async false
set_option linter.all false
set_option maxRecDepth 100000
set_option maxHeartbeats 2000000
namespace RM
open PySem PySem.Spec PyProof.Rows L2
section
variable {P : Program} {w : World} {K : PySem.W.Frag} {mg : Str → Option Value} {base : Heap}
/-! ### keys_of, variables -/
def spKeys (K : PySem.W.Frag) : Sp := fun vs H Q _ => match vs with
  | [x] => ∃ a l, x = .ref a ∧ PrgAt K H a l ∧ dB l ≤ 4 ∧ cB l ≤ 1000 ∧
    ∀ ks p H', Same H H' → H' p = some (.tup (ks.map V.str)) → RM.KeysOf ks ((readsOf l).map (·.2)) → Q (.ref p) H'
  | _ => False
theorem reads_len (l : List Stm) : (readsOf l).length ≤ cB l := by
  rw [← aB_len [] 0 l]
  exact List.length_filterMap_le ..
theorem sc_Program_keys_of : FnScope ["self", "path", "key"] ["self"] (defScope s_Program_keys_of) := ⟨rfl, rfl, rfl, by decide +kernel, rfl, by decide +kernel, by decide +kernel⟩
theorem c_Program_keys_of (T : Top w K mg) : Met P w K mg base CX0 7 (He.ga K "Program") "keys_of" (spKeys K) := by
  refine met_0 (f_Program_keys_of T) (k_Program T) (me_Program_keys_of T) sc_Program_keys_of (fun _ _ _ _ _ _ us hl => match us, hl with | [_], _ => rfl) (fun vs H Q E h => match vs, h with | [_], _ => rfl) (fun cdv A outer s H vs Q E hr h => ?_)
  match vs, h with
  | [x], h =>
  obtain ⟨a, l, rfl, pa, hd, hc, q⟩ := h
  obtain ⟨dx, v, ha, hv⟩ := id pa
  refine ⟨_, (pss_one (ps_ret (pct (z_tuple T) call_tuple_of boot_tuple (pa_cons (pcb (z_sorted T) (cr_sortX rfl) boot_sorted (pa_cons (pe_scX (own := [("path", 1), ("key", 2)]) rfl sc_Program_keys_of.nd (pi_seqA (pmt0 (c_Program_reads T) hr (pv 0))) (blkOk_by (own := [("path", 1), ("key", 2)]) (N := ["self", "path", "key"]) (sc := defScope s_Program_keys_of) (by decide +kernel)) (fun _ _ _ _ _ => (pg_tup' (n := 2) (K := K) rfl rfl (pgs_cons (pg_name (i := 1) sc_Program_keys_of.nd rfl (Or.inl rfl) (Or.inr rfl)) (pgs_cons (pg_name (i := 2) sc_Program_keys_of.nd rfl (Or.inl rfl) (Or.inr rfl)) pgs_nil)) rfl rfl)) (fun _ _ _ _ _ => pts_nil) (fun _ _ _ _ _ => (pv 2))) pa_nil)) pa_nil)))), ?_⟩
  refine ⟨_, rfl, a, dx, _, rfl, ha, rfl, a, l, rfl, pa, hd, hc, fun r H1 ys s1 nr hr2 hys => ?_⟩
  have hl : ys.length = (readsOf l).length := by rw [DpAll.len hys, List.length_map]
  have hl2 : ys.length ≤ 1000 := by have := reads_len l; omega
  refine seqA_of (.inl (SqL.of hr2)) (Same.refl _) fun J wk => ?_
  intro D nD
  refine scX_of wk (fun i => ((readsOf l).map (·.2))[i]?) nD hl2 (fun H' e => e) ?_ ?_
  · rintro i x H2 H3 N hi e ⟨rfl, hx⟩ hk hno
    obtain ⟨d, hd1, hd2⟩ := DpAll.getV hys hx
    rw [List.getElem?_map] at hd1
    obtain ⟨⟨pth, k⟩, hq, rfl⟩ := Option.map_eq_some_iff.mp hd1
    obtain ⟨t, zs, rfl, ht, hz⟩ := Dp.tup_inv (Dp.keep e hd2)
    obtain ⟨z1, r1, rfl, hz1, hz⟩ := DpAll.cons_inv hz
    obtain ⟨z2, r2, rfl, hz2, hz⟩ := DpAll.cons_inv hz
    obtain rfl := DpAll.nil_inv hz
    obtain rfl := Dp.str_inv hz2
    refine ⟨t, _, rfl, ht, rfl, _, _, rfl, _, _, rfl, rfl, rfl, ?_⟩
    refine yesI ?_
    exact ⟨_, rfl, hk _ k (by rw [List.getElem?_map, hq]; rfl) (Same.refl _)⟩
  · intro H3 zs e hD hlen hm
    refine ⟨D, zs, rfl, hD, by omega, fun ks p pm nd srt hp => ?_⟩
    have s2 := smNew1 hp (.lst (ks.map V.str))
    refine ⟨p, _, rfl, .inl ⟨SqL.of upd_same, fun p2 hp2 => ?_⟩⟩
    refine q ks p2 _ (s1.trans (e.trans (smNew s2 hp2 _))) upd_same (RM.KeysOf.of pm nd srt fun k => ?_)
    rw [hm]
    constructor
    · rintro ⟨i, _, e⟩
      exact List.mem_of_getElem? e
    · intro hk
      obtain ⟨i, hi, e⟩ := List.getElem_of_mem hk
      exact ⟨i, by rw [hl]; rw [List.length_map] at hi; exact hi, by rw [List.getElem?_eq_getElem hi, e]⟩
end
end RM

set_option Elab.async false
set_option linter.all false
set_option maxRecDepth 100000
set_option maxHeartbeats 2000000
namespace RM
open PySem PySem.Spec PyProof.Rows L2
/-! a thing that an expression makes is locked behind it; unlocked behind a statement -/
def tFrz (t : TE) : TE := fun σ H Q => t σ H fun x H1 => ∃ d u, x = .ref d ∧ H1 d = some u ∧ Mut (some u) ∧ ∀ od, Q x (upd H1 d (.frz od u))
def sUnl (X : Cx) (t : L2.TS) : L2.TS := fun D σ H =>
  t ⟨fun σ' H' => ∃ d od u, H' d = some (.frz od u) ∧ (∀ o' u', X.H_0 d ≠ some (.frz o' u')) ∧ D.nx σ' (upd H' d u),
     fun v H' => ∃ d od u, H' d = some (.frz od u) ∧ (∀ o' u', X.H_0 d ≠ some (.frz o' u')) ∧ D.rt v (upd H' d u),
     fun σ' H' => ∃ d od u, H' d = some (.frz od u) ∧ (∀ o' u', X.H_0 d ≠ some (.frz o' u')) ∧ D.bk σ' (upd H' d u),
     fun σ' H' => ∃ d od u, H' d = some (.frz od u) ∧ (∀ o' u', X.H_0 d ≠ some (.frz o' u')) ∧ D.ct σ' (upd H' d u)⟩ σ H
section
variable {X : Cx}
theorem pe_frz {e : Expr} {t : TE} (h : PE X e t) : PE X e (tFrz t) := by
  refine ⟨fun pins s σ H Q I hw => ?_⟩
  refine thn (h.run pins s σ _ _ I hw) fun v s1 ⟨x, H1, I1, r, d, u, ex, hd, mu, q⟩ => ?_
  obtain ⟨od, I2⟩ := I1.lock hd mu
  exact ⟨x, _, I2, r, q od⟩
theorem ps_unl {st : Stmt} {t : L2.TS} (h : PS X st t) : PS X st (sUnl X t) := by
  refine ⟨fun pins s σ H D I hw => ?_⟩
  refine thn (h.run pins s σ _ _ I hw) fun f s1 q => ?_
  cases f with
  | next => obtain ⟨σ', H', I2, d, od, u, e, n, q⟩ := q; exact ⟨σ', _, I2.unlock e n, q⟩
  | brk => obtain ⟨σ', H', I2, d, od, u, e, n, q⟩ := q; exact ⟨σ', _, I2.unlock e n, q⟩
  | cont => obtain ⟨σ', H', I2, d, od, u, e, n, q⟩ := q; exact ⟨σ', _, I2.unlock e n, q⟩
  | ret v => obtain ⟨x, σ', H', I2, r, d, od, u, e, n, q⟩ := q; exact ⟨x, σ', _, I2.unlock e n, r, q⟩
end
end RM

set_option Elab.async false
set_option linter.all false
set_option maxRecDepth 100000
set_option maxHeartbeats 4000000
namespace RM
open PySem PySem.Spec PyProof.Rows L2
/-- the first word of ks that m lacks -/
def lackL (m : WM) (ks : List Str) : Option Str := ks.find? fun k => decide (k ∉ wKeys m)
/-- the first lacking word of a program, then of changes -/
def lackA (m : WM) (ks : List Str) (gs : List WM) : Option Str := (lackL m ks).or (gs.findSome? (lack m))
theorem lackL_at {m : WM} {ks : List Str} {i : Nat} {k : Str} (h : ∀ j ∈ ks.take i, j ∈ wKeys m) (hk : ks[i]? = some k) (hm : k ∉ wKeys m) : lackL m ks = some k := by
  unfold lackL
  have e : ks = ks.take i ++ k :: ks.drop (i + 1) := by
    conv => lhs; rw [← List.take_append_drop (i + 1) ks, take_more hk, List.append_assoc]
    rfl
  rw [e, List.find?_append, List.find?_eq_none.mpr (fun j hj => by simpa using h j hj), List.find?_cons_of_pos (by simpa using hm)]
  rfl
theorem lackL_none {m : WM} {ks : List Str} (h : ∀ j ∈ ks, j ∈ wKeys m) : lackL m ks = none := List.find?_eq_none.mpr fun j hj => by simpa using h j hj
/-- the first item with a number that is none of a change -/
def offI (n : Nat) (it : List Int) : Bool := it.any fun i => !(decide (0 ≤ i) && decide (i < (n : Int)))
def offP (n : Nat) (plan : List (List Int)) : Option Nat := plan.findIdx? (offI n)
theorem offP_at {n : Nat} {plan : List (List Int)} {i : Nat} {it : List Int} (h : ∀ j ∈ plan.take i, offI n j = false) (hk : plan[i]? = some it) (hm : offI n it = true) : offP n plan = some i := by
  unfold offP
  have il := (List.getElem?_eq_some_iff.mp hk)
  rw [List.findIdx?_eq_some_iff_getElem]
  have il1 := il.1
  refine ⟨il.1, by rw [il.2]; exact hm, fun j hj => ?_⟩
  rw [h _ (List.mem_iff_getElem.mpr ⟨j, by rw [List.length_take]; omega, by rw [List.getElem_take]⟩)]
  decide
theorem offP_none {n : Nat} {plan : List (List Int)} (h : ∀ j ∈ plan, offI n j = false) : offP n plan = none := by
  unfold offP
  rw [List.findIdx?_eq_none_iff]
  exact h
section
variable {P : Program} {w : World} {K : PySem.W.Frag} {mg : Str → Option Value} {base : Heap}
def spCheckKeys (K : PySem.W.Frag) : Sp := fun vs H Q E => match vs with
  | [x, y, z] => ∃ a l b m c cas gs, x = .ref a ∧ y = .ref b ∧ z = .ref c ∧ PrgAt K H a l ∧ dB l ≤ 4 ∧ cB l ≤ 1000 ∧ SurAt K H b m ∧ SqA K H c (cas.map V.ref) ∧ Paired (fun x g => ChgAt K H x g) cas gs ∧
    ∀ ks, RM.KeysOf ks ((readsOf l).map (·.2)) → (lackA m ks gs = none → ∀ H', Same H H' → Q .non H') ∧ (∀ k, lackA m ks gs = some k → ∀ d H', Same H H' → H' d = some (.xd [("key", .str k)]) → E (.ref (He.ga K "NoKey")) (some d) H')
  | _ => False
theorem sc_check_keys : FnScope ["program", "surroundings", "changes", "key", "change"] ["program", "surroundings", "changes"] (defScope s_check_keys) := ⟨rfl, rfl, rfl, by decide +kernel, rfl, by decide +kernel, by decide +kernel⟩
theorem c_check_keys (T : Top w K mg) : Cal P w K mg base (L2.CX P w) 8 "check_keys" (spCheckKeys K) := by
  refine cal_X (f_check_keys T) (g_check_keys T) sc_check_keys (fun _ _ _ _ _ _ us hl => match us, hl with | [_, _, _], _ => rfl) (fun vs H Q E h => match vs, h with | [_, _, _], _ => rfl) (fun cdv A outer s H vs Q E hr h => ?_)
  match vs, h with
  | [x, y, z], h =>
  obtain ⟨a, l, b, m, c, cas, gs, rfl, rfl, rfl, pa, hd, hc, sb, hcs, pg, q⟩ := h
  obtain ⟨dx, v, ha, hv⟩ := id pa
  obtain ⟨⟨db, p, hb, hp, okm, sm⟩, l1, l4⟩ := id sb
  refine ⟨_, (pss_cons (ps_for (passes_of rfl) rfl (pi_seqA (pmt0 (c_Program_keys_of T) hr (pv 0))) (pg_name (i := 3) sc_check_keys.nd rfl (Or.inl rfl))
      (pss_one (ps_if (pt_cmpR (op_ninO (E := E0) (o_Surroundings_contains T) (fun _ _ _ _ _ _ _ h => h.elim) hr) (pv 3) (pv 1) rfl)
      (pss_one (ps_raiseX (takes_of rfl rfl rfl rfl) (c_NoKey_init T) hr (pa_cons (pv 3) pa_nil)))
      pss_nil)))
    (pss_one (ps_for (passes_of rfl) rfl (pi_seqA (pv 2)) (pg_name (i := 4) sc_check_keys.nd rfl (Or.inl rfl))
      (pss_one (ps_unl (ps_for (passes_of rfl) rfl (pi_keys (pe_frz (pmt0 (c_Change_settings T) hr (pv 4)))) (pg_name (i := 3) sc_check_keys.nd rfl (Or.inl rfl))
      (pss_one (ps_if (pt_cmpR (op_ninO (E := E0) (o_Surroundings_contains T) (fun _ _ _ _ _ _ _ h => h.elim) hr) (pv 3) (pv 1) rfl)
      (pss_one (ps_raiseX (takes_unl (takes_of rfl rfl rfl rfl)) (c_NoKey_init T) hr (pa_cons (pv 3) pa_nil)))
      pss_nil)))))))), ?_⟩
  refine ⟨_, rfl, a, dx, _, rfl, ha, rfl, a, l, rfl, pa, hd, hc, fun ks t H1 e1 ht hks => ?_⟩
  obtain ⟨q1, q2⟩ := q ks hks
  refine seqA_of (.inr (SqT.of ht)) (Same.refl _) fun J wk => ?_
  refine for_it wk (fun i σ H' => Same H1 H' ∧ (∀ k ∈ ks.take i, k ∈ wKeys m) ∧ ∃ v3, σ = [some (.ref a), some (.ref b), some (.ref c), v3, none]) ⟨Same.refl _, fun k hk => by simp at hk, _, rfl⟩ (fun _ _ _ _ h => h.1) ?_ ?_
  · rintro i x σ H2 H3 hi ⟨e2, hk, v3, rfl⟩ ⟨rfl, hx⟩
    rw [List.getElem?_map] at hx
    obtain ⟨k, hk1, rfl⟩ := Option.map_eq_some_iff.mp hx
    have e12 := e1.trans e2
    refine ⟨_, rfl, _, rfl, b, db, _, rfl, e12 _ _ hb, ⟨b, m, k, rfl, rfl, sb.keep e12, _, rfl, _, rfl, ?_⟩⟩
    by_cases hm : k ∈ wKeys m
    · refine ifF (by rw [decide_eq_true hm]; rfl) ⟨e2, fun j hj => ?_, _, rfl⟩
      rw [take_more hk1] at hj
      rcases List.mem_append.mp hj with h | h
      · exact hk j h
      · rw [List.mem_singleton.mp h]; exact hm
    · refine ifT (by rw [decide_eq_false hm]; rfl) ⟨_, rfl, ?_⟩
      exact raise1 fun d H' _ e' hd => q2 k (by unfold lackA; rw [lackL_at hk hk1 hm]; rfl) d H' (e12.trans e') hd
  rintro σ H2 ⟨e2, hk, v3, rfl⟩
  rw [List.length_map, List.take_length] at hk
  have e12 := e1.trans e2
  have nl : lackA m ks gs = gs.findSome? (lack m) := by unfold lackA; rw [lackL_none hk]; rfl
  rw [nl] at q1 q2
  refine ⟨_, rfl, ?_⟩
  refine seqA_of ((sqA_sm e12 hcs)) (Same.refl _) fun J2 wk2 => ?_
  refine for_it wk2 (fun i σ H' => Same H2 H' ∧ (∀ g ∈ gs.take i, lack m g = none) ∧ ∃ v3 v4, σ = [some (.ref a), some (.ref b), some (.ref c), v3, v4]) ⟨Same.refl _, fun k hk => by simp at hk, _, _, rfl⟩ (fun _ _ _ _ h => h.1) ?_ ?_
  · rintro i x σ H3 H4 hi ⟨e3, hk, v3, v4, rfl⟩ ⟨rfl, hx⟩
    rw [List.getElem?_map] at hx
    obtain ⟨y, hy, rfl⟩ := Option.map_eq_some_iff.mp hx
    obtain ⟨g, hg, cg⟩ := paired_at pg hy
    have e13 := e12.trans e3
    obtain ⟨⟨dy, p2, hc2, hp2, okg, sg⟩, lg⟩ := id (cg.keep e13)
    refine ⟨_, rfl, y, dy, _, rfl, hc2, rfl, y, g, rfl, cg.keep e13, fun r H5 e5 nr hr5 => ?_⟩
    have e15 := e13.trans e5
    refine ⟨r, .dK (mK g), rfl, hr5, trivial, fun od => ?_⟩
    have lgK : (mK g).length = g.length := List.length_map ..
    have rn : ∀ {b o}, H4 b = some o → b ≠ r := fun h => ne_of_none h nr
    refine ⟨r, od, rfl, .inl ⟨mK g, upd_same, for_it walk_keys (fun i σ H' => H' = upd H5 r (.frz od (.dK (mK g))) ∧ (∀ k ∈ wKeys (g.take i), k ∈ wKeys m) ∧ ∃ v3 v4, σ = [some (.ref a), some (.ref b), some (.ref c), v3, v4])
      ⟨rfl, fun k hk => by simp [wKeys] at hk, _, _, rfl⟩ (fun i σ H' _ h => by rw [h.1]; exact upd_same) ?_ ?_⟩⟩
    · rintro i2 x2 σ H6 H7 hi2 ⟨rfl, hk2, w3, w4, rfl⟩ ⟨rfl, k, v2, hkv, rfl⟩
      obtain ⟨z, hz, rfl, rfl⟩ := mK_get hkv
      have sb6 : SurAt K (upd H5 r (.frz od (.dK (mK g)))) b m := by
        refine ⟨⟨db, p, ?_, ?_, okm, sm⟩, l1, l4⟩
        · rw [upd_ne (rn (e13 _ _ hb))]; exact e15 _ _ hb
        · rw [upd_ne (rn (e13 _ _ hp))]; exact e15 _ _ hp
      have tk : wKeys (g.take (i2 + 1)) = wKeys (g.take i2) ++ [z.1] := by
        unfold wKeys
        rw [List.take_add_one, hz, List.map_append]
        rfl
      refine ⟨_, rfl, _, rfl, b, db, _, rfl, by rw [upd_ne (rn (e13 _ _ hb))]; exact e15 _ _ hb, ⟨b, m, z.1, rfl, rfl, sb6, _, rfl, _, rfl, ?_⟩⟩
      by_cases hm : z.1 ∈ wKeys m
      · refine ifF (by rw [decide_eq_true hm]; rfl) ⟨rfl, fun j hj => ?_, _, _, rfl⟩
        rw [tk] at hj
        rcases List.mem_append.mp hj with h | h
        · exact hk2 j h
        · rw [List.mem_singleton.mp h]; exact hm
      · refine ifT (by rw [decide_eq_false hm]; rfl) ⟨_, rfl, ?_⟩
        refine raise1U fun d H' nd e hd => ?_
        have np : d ≠ r := fun z => by rw [z, upd_same] at nd; cases nd
        refine ⟨r, od, .dK (mK g), e _ _ upd_same, fun o' u' z => ?_, q2 z.1 ?_ d _ (e15.trans (same_back hr5 e)) (by rw [upd_ne np]; exact hd)⟩
        · exact (by have z' : H r = some (.frz o' u') := z; rw [(e13.free nr)] at z'; cases z')
        · rw [first_some hg ?_ ?_]
          · have il := (List.getElem?_eq_some_iff.mp hz).1
            have kz : (wKeys g)[i2]? = some z.1 := by unfold wKeys; rw [List.getElem?_map, hz]; rfl
            exact lackL_at (ks := wKeys g) (fun j hj => hk2 j (by unfold wKeys at hj ⊢; rw [List.map_take]; exact hj)) kz hm
          · intro j g' hj hg'
            exact hk g' (List.mem_of_getElem? (by rw [List.getElem?_take, if_pos hj]; exact hg'))
    · rintro σ H6 ⟨rfl, hk2, w3, w4, rfl⟩
      refine ⟨r, od, .dK (mK g), upd_same, fun o' u' z => (by have z' : H r = some (.frz o' u') := z; rw [(e13.free nr)] at z'; cases z'), ?_⟩
      rw [upd_back hr5]
      rw [lgK, List.take_length] at hk2
      refine ⟨e3.trans e5, fun g' hg' => ?_, _, _, rfl⟩
      rw [take_more hg] at hg'
      rcases List.mem_append.mp hg' with h | h
      · exact hk g' h
      · rw [List.mem_singleton.mp h]
        exact List.find?_eq_none.mpr fun k hk' => by simpa using hk2 k hk'
  · rintro σ H3 ⟨e3, hk, v3', v4, rfl⟩
    refine q1 ?_ _ (e12.trans e3)
    rw [List.length_map, pg.length, List.take_length] at hk
    exact List.findSome?_eq_none_iff.mpr hk
/-! ### BadSchedule -/
theorem sc_BadSchedule_init : FnScope ["self", "item"] ["self", "item"] (defScope s_BadSchedule_init) := ⟨rfl, rfl, rfl, by decide +kernel, rfl, by decide +kernel, by decide +kernel⟩
theorem c_BadSchedule_init (T : Top w K mg) : Exo P w K mg base 1 "BadSchedule" (He.ga K "BadSchedule") (spExo (He.ga K "BadSchedule") "item") := by
  refine exo_0 (f_BadSchedule_init T) (oexB_ok (oex_BadSchedule T)) (me_BadSchedule_init T) (g_BadSchedule T) sc_BadSchedule_init (fun _ _ _ _ _ _ us hl => match us, hl with | [_, _], _ => rfl) (fun vs H Q E h => match vs, h with | [_, _], _ => rfl) (fun cdv A outer s H vs Q E hr h => ?_)
  match vs, h with
  | [x, v], h =>
  obtain ⟨a, rfl, ha, q⟩ := h
  refine ⟨_, (pss_one (ps_ost (pv 0) (pv 1))), ?_⟩
  exact ⟨_, rfl, _, rfl, a, _, rfl, oexB_ok (oex_BadSchedule T), na_BadSchedule_item T, .inl ⟨ha, fun dx h1 h2 => q dx h1 h2⟩⟩
def spCheckSched (K : PySem.W.Frag) : Sp := fun vs H Q E => match vs with
  | [x, y] => ∃ c xs p its plan, x = .ref c ∧ y = .ref p ∧ SqA K H c xs ∧ SqA K H p (its.map V.ref) ∧ Paired (fun a ns => SqA K H a (ns.map V.int)) its plan ∧
    (offP xs.length plan = none → ∀ H', Same H H' → Q .non H') ∧ (∀ i : Nat, offP xs.length plan = some i → ∀ d H', Same H H' → H' d = some (.xd [("item", .int (i : Int))]) → E (.ref (He.ga K "BadSchedule")) (some d) H')
  | _ => False
theorem sc_check_schedule : FnScope ["changes", "schedule", "item", "numbers", "number"] ["changes", "schedule"] (defScope s_check_schedule) := ⟨rfl, rfl, rfl, by decide +kernel, rfl, by decide +kernel, by decide +kernel⟩
theorem c_check_schedule (T : Top w K mg) : Cal P w K mg base (L2.CX P w) 3 "check_schedule" (spCheckSched K) := by
  refine cal_X (f_check_schedule T) (g_check_schedule T) sc_check_schedule (fun _ _ _ _ _ _ us hl => match us, hl with | [_, _], _ => rfl) (fun vs H Q E h => match vs, h with | [_, _], _ => rfl) (fun cdv A outer s H vs Q E hr h => ?_)
  match vs, h with
  | [x, y], h =>
  obtain ⟨c, xs, p, its, plan, rfl, rfl, hc, hp, pp, q1, q2⟩ := h
  refine ⟨_, (pss_one (ps_for (passes_of rfl) rfl (pi_enumA (by rfl) (z_enumerate T) (pa_cons (pv 1) pa_nil)) (pg_tup rfl (pgs_cons (pg_name (i := 2) sc_check_schedule.nd rfl (Or.inl rfl)) (pgs_cons (pg_name (i := 3) sc_check_schedule.nd rfl (Or.inl rfl)) pgs_nil)))
      (pss_one (ps_for (passes_of rfl) rfl (pi_seqA (pv 3)) (pg_name (i := 4) sc_check_schedule.nd rfl (Or.inl rfl))
      (pss_one (ps_if (pt_not (pt_chain op_le op_lt pe_int (pv 4) (pcb (z_len T) call_len_seq boot_len (pa_cons (pv 0) pa_nil))))
      (pss_one (ps_raiseX (takes_of rfl rfl rfl rfl) (c_BadSchedule_init T) hr (pa_cons (pv 2) pa_nil)))
      pss_nil)))))), ?_⟩
  refine ⟨_, rfl, enumA_of hp (Same.refl _) fun J wk => ?_⟩
  refine for_it wk (fun i σ H' => Same H H' ∧ (∀ it ∈ plan.take i, offI xs.length it = false) ∧ ∃ v3 v4 v5, σ = [some (.ref c), some (.ref p), v3, v4, v5]) ⟨Same.refl _, fun k hk => by simp at hk, _, _, _, rfl⟩ (fun _ _ _ _ h => h.1) ?_ ?_
  · rintro i x σ H1 H2 hi ⟨e1, hk, v3, v4, v5, rfl⟩ ⟨t, y, z, rfl, ht, rfl, hy, hz⟩
    obtain rfl : V.int (i : Nat) = y := Option.some.inj hy
    replace hz : (its.map V.ref)[i]? = some z := hz
    rw [List.getElem?_map] at hz
    obtain ⟨ia, hia, rfl⟩ := Option.map_eq_some_iff.mp hz
    obtain ⟨it, hit, sit⟩ := paired_at pp hia
    have e2 := smNew e1 ht (.tup [.int (i : Nat), .ref ia])
    refine ⟨t, _, rfl, SqT.of upd_same, rfl, _, _, rfl, _, _, rfl, rfl, ?_⟩
    refine ⟨_, rfl, seqA_of (sqA_sm e2 sit) (Same.refl _) fun J2 wk2 => ?_⟩
    refine for_it wk2 (fun j σ H' => Same (upd H1 t (.tup [.int (i : Nat), .ref ia])) H' ∧ (∀ n ∈ it.take j, 0 ≤ n ∧ n < (xs.length : Int)) ∧ ∃ v5, σ = [some (.ref c), some (.ref p), some (.int (i : Nat)), some (.ref ia), v5]) ⟨Same.refl _, fun k hk => by simp at hk, _, rfl⟩ (fun _ _ _ _ h => h.1) ?_ ?_
    · rintro j x2 σ H3 H4 hj ⟨e3, hk3, w5, rfl⟩ ⟨rfl, hx2⟩
      rw [List.getElem?_map] at hx2
      obtain ⟨n, hn, rfl⟩ := Option.map_eq_some_iff.mp hx2
      have e13 := e2.trans e3
      have bad : ¬ (0 ≤ n ∧ n < (xs.length : Int)) → (∀ d H', Same H4 H' → H' d = some (.xd [("item", .int (i : Int))]) → E (.ref (He.ga K "BadSchedule")) (some d) H') := fun hb d H' e' hd => by
        refine q2 i ?_ d H' (e13.trans e') hd
        refine offP_at hk hit (List.any_eq_true.mpr ⟨n, List.mem_of_getElem? hn, ?_⟩)
        by_cases h0 : 0 ≤ n
        · have h1 : ¬ n < (xs.length : Int) := fun z => hb ⟨h0, z⟩
          rw [decide_eq_true h0, decide_eq_false h1]
          rfl
        · rw [decide_eq_false h0]
          rfl
      refine ⟨_, rfl, _, _, rfl, rfl, _, rfl, ?_⟩
      by_cases h0 : 0 ≤ n
      · rw [decide_eq_true h0]
        refine iteT ⟨_, rfl, c, xs, rfl, sqA_sm e13 hc, _, _, rfl, rfl, _, rfl, ?_⟩
        by_cases h1 : n < (xs.length : Int)
        · rw [decide_eq_true h1]
          refine ifF rfl ⟨e3, fun z hz => ?_, _, rfl⟩
          rw [take_more hn] at hz
          rcases List.mem_append.mp hz with h | h
          · exact hk3 z h
          · rw [List.mem_singleton.mp h]; exact ⟨h0, h1⟩
        · rw [decide_eq_false h1]
          refine ifT rfl ⟨_, rfl, ?_⟩
          exact raise1 fun d H' _ e' hd => bad (fun z => h1 z.2) d H' e' hd
      · rw [decide_eq_false h0]
        refine iteF ⟨_, rfl, ifT rfl ⟨_, rfl, ?_⟩⟩
        exact raise1 fun d H' _ e' hd => bad (fun z => h0 z.1) d H' e' hd
    · rintro σ H3 ⟨e3, hk3, w5, rfl⟩
      refine ⟨e2.trans e3, fun it' hit' => ?_, _, _, _, rfl⟩
      rw [List.length_map, List.take_length] at hk3
      rw [take_more hit] at hit'
      rcases List.mem_append.mp hit' with h | h
      · exact hk it' h
      · rw [List.mem_singleton.mp h]
        refine List.any_eq_false.mpr fun n hn => ?_
        rw [decide_eq_true (hk3 n hn).1, decide_eq_true (hk3 n hn).2]
        decide
  · rintro σ H1 ⟨e1, hk, v3, v4, v5, rfl⟩
    rw [List.length_map, pp.length, List.take_length] at hk
    exact q1 (offP_none hk) _ e1
end
end RM

set_option Elab.async false
set_option linter.all false
set_option maxRecDepth 100000
set_option maxHeartbeats 2000000
/-! dicts whose keys are texts, numbers, None and short tuples, in any mix: what stands at a key -/
namespace RM
open PySem PySem.Spec PyProof.Rows L2
/-- the entries' keys are ks, each once -/
structure Tb (w : World) (h : Heap) (ents : Array DictEntry) (ks : List NestedKey) : Prop where
  all : Paired (fun (k : NestedKey) (e : DictEntry) => NestedIs h k e.key ∧ k.depth ≤ 4 ∧ e.hash = k.hash w) ks ents.toList
  nd : ks.Nodup
theorem pr_left {α β : Type} {F : α → β → Prop} : ∀ {l : List α} {m : List β}, Paired F l m → ∀ {i : Nat} {a : α}, l[i]? = some a → ∃ b, m[i]? = some b ∧ F a b
  | _, _, .nil, i, a, h => by simp at h
  | _, _, .cons r t, 0, a, h => by
    have e := Option.some.inj h
    subst e
    exact ⟨_, rfl, r⟩
  | _, _, .cons r t, i + 1, a, h => pr_left t (i := i) (by simpa using h)
theorem pr_right {α β : Type} {F : α → β → Prop} : ∀ {l : List α} {m : List β}, Paired F l m → ∀ {i : Nat} {b : β}, m[i]? = some b → ∃ a, l[i]? = some a ∧ F a b
  | _, _, .nil, i, a, h => by simp at h
  | _, _, .cons r t, 0, a, h => by
    have e := Option.some.inj h
    subst e
    exact ⟨_, rfl, r⟩
  | _, _, .cons r t, i + 1, a, h => pr_right t (i := i) (by simpa using h)
section
variable {P : Program} {w : World} {A : Around} {E : Value → Shared → Prop} {s : Shared} {d : Addr} {ents : Array DictEntry} {ks : List NestedKey} {key : Value} {k : NestedKey} {o : Obj} {ep : Nat} {Q : Option Nat → Shared → Prop}
theorem Tb.entry (T : Tb w s.heap ents ks) {i : Nat} {e : DictEntry} (h : ents[i]? = some e) : ∃ k, ks[i]? = some k ∧ NestedIs s.heap k e.key ∧ k.depth ≤ 4 ∧ e.hash = k.hash w :=
  pr_right T.all (by rw [Array.getElem?_toList]; exact h)
theorem Tb.atKey (T : Tb w s.heap ents ks) {i : Nat} {k : NestedKey} (h : ks[i]? = some k) : ∃ e, ents[i]? = some e ∧ NestedIs s.heap k e.key ∧ k.depth ≤ 4 ∧ e.hash = k.hash w := by
  obtain ⟨e, he, q⟩ := pr_left T.all h
  exact ⟨e, by rw [← Array.getElem?_toList]; exact he, q⟩
theorem Tb.size (T : Tb w s.heap ents ks) : ks.length = ents.size := by rw [Paired.length T.all, Array.length_toList]
theorem Tb.one (T : Tb w s.heap ents ks) {i j : Nat} (h : ks[i]? = some k) (h' : ks[j]? = some k) : i = j :=
  (List.getElem?_inj (List.getElem?_eq_some_iff.mp h).1 T.nd).mp (h.trans h'.symm)
/-- what a look-up finds -/
def FoundG (ks : List NestedKey) (k : NestedKey) : Option Nat → Prop
  | none => k ∉ ks
  | some i => ks[i]? = some k
abbrev placesG (w : World) (ents : Array DictEntry) (k : NestedKey) : List Nat := placesWithHash ents.size (fun i => ents[i]?.map (·.hash)) (k.hash w)
theorem place_in {i : Nat} : i ∈ placesG w ents k ↔ ∃ e, ents[i]? = some e ∧ e.hash = k.hash w := by
  unfold placesG placesWithHash
  rw [List.mem_filter, List.mem_range]
  constructor
  · rintro ⟨h1, h2⟩
    obtain ⟨e, he⟩ : ∃ e, ents[i]? = some e := ⟨ents[i], Array.getElem?_eq_getElem h1⟩
    have h3 : (ents[i]?.map (·.hash) == some (k.hash w)) = true := h2
    rw [he] at h3
    exact ⟨e, he, by simpa using h3⟩
  · rintro ⟨e, he, hh⟩
    refine ⟨(Array.getElem?_eq_some_iff.mp he).1, ?_⟩
    show (ents[i]?.map (·.hash) == some (k.hash w)) = true
    rw [he]
    simpa using hh
theorem place_nd : (placesG w ents k).Nodup := List.Pairwise.filter _ List.nodup_range
theorem Tb.place (T : Tb w s.heap ents ks) {i : Nat} (h : ks[i]? = some k) : i ∈ placesG w ents k :=
  let ⟨e, he, _, _, hh⟩ := T.atKey h
  place_in.mpr ⟨e, he, hh⟩
theorem Tb.not (T : Tb w s.heap ents ks) (h : ∀ i ∈ placesG w ents k, ks[i]? ≠ some k) : k ∉ ks := fun m => by
  obtain ⟨i, hi⟩ := List.mem_iff_getElem?.mp m
  exact h i (T.place hi) hi
/-- the keys' own == -/
theorem key_eq {x : NestedKey} {a : Value} {R : Bool → Shared → Prop} (hu : A.units + 4 < cLine) (ra : NestedIs s.heap x a) (rb : NestedIs s.heap k key) (dx : x.depth ≤ 4) (dk : k.depth ≤ 4) (q : R (decide (x = k)) s) : wpAny (model P w) A (eqBool a key) R E s := by
  refine eqAt_key x k A s a key ra rb (by have := Nat.min_le_left x.depth k.depth; omega) P w E R ?_
  rw [← NestedKey.decide_eq]
  exact q
theorem stored_in {v : Value} (h : v ∈ (placesG w ents k).filterMap fun i => ents[i]?.map fun e : DictEntry => e.key) : ∃ (i : Nat) (e : DictEntry), ents[i]? = some e ∧ v = e.key := by
  obtain ⟨i, _, hi⟩ := List.mem_filterMap.mp h
  obtain ⟨e, he, rfl⟩ := Option.map_eq_some_iff.mp hi
  exact ⟨i, e, he, rfl⟩
/-- all keys by value -/
theorem walk_g (T : Tb w s.heap ents ks) (hu : A.units + 4 < cLine) (ho : s.heap.get? d = some o) (hd : o.data = .dict ents ep) (rk : NestedIs s.heap k key) (dk : k.depth ≤ 4) (q : ∀ r, FoundG ks k r → Q r s) :
    wpAny (model P w) A (dictWalkPlain d key (k.hash w) ents (placesG w ents k)) Q E s := by
  unfold dictWalkPlain
  refine wpAny_bind ?_
  refine wpAny_forIn_list _ (fun rest b s' => s' = s ∧ b = (none, ()) ∧ ∃ done, placesG w ents k = done ++ rest ∧ ∀ i ∈ done, ks[i]? ≠ some k) _ ?_ ?_ _ _ ⟨rfl, rfl, [], rfl, fun _ h => by simp at h⟩
  · rintro x rest b s' ⟨rfl, rfl, done, hp, hno⟩
    obtain ⟨e, he, hh⟩ := place_in.mp (show x ∈ placesG w ents k by rw [hp]; simp)
    obtain ⟨k', hk', ik', dk', _⟩ := T.entry he
    have next : k' ≠ k → ∃ done, placesG w ents k = done ++ rest ∧ ∀ i ∈ done, ks[i]? ≠ some k := fun ne =>
      ⟨done ++ [x], by rw [hp]; simp, fun i hi => by
        rcases List.mem_append.mp hi with h | h
        · exact hno i h
        · rw [List.mem_singleton.mp h, hk']
          exact fun z => ne (Option.some.inj z)⟩
    simp only [he]
    rw [if_pos (by rw [hh]; simp)]
    refine wpAny_bind (wpAny_dictEpoch ho hd (wpAny_bind (key_eq hu ik' rk dk' dk (wpAny_bind (wpAny_dictEpoch ho hd ?_)))))
    show wpAny _ _ (if (ep != ep) = true then _ else _) _ E _
    rw [if_neg (by simp)]
    by_cases c : k' = k
    · rw [decide_eq_true c]
      subst c
      refine wpAny_bind (wpAny_rule ?_)
      exact wpAny_pure (wpAny_pure (q (some x) hk'))
    · rw [decide_eq_false c]
      refine wpAny_bind (wpAny_rule ?_)
      exact wpAny_pure ⟨rfl, rfl, next c⟩
  · rintro b s' ⟨rfl, rfl, done, hp, hno⟩
    exact wpAny_pure (q none (T.not fun i hi => hno i (by rw [hp, List.append_nil] at hi; exact hi)))

/-- the general walk: keys that stand in the heap among them -/
theorem tell_g (T : Tb w s.heap ents ks) (rk : NestedIs s.heap k key) (dk : k.depth ≤ 4) {R : Bool → Shared → Prop} (q : R false s) :
    wpAny (model P w) A (tableMayTell key ((placesG w ents k).filterMap fun i => ents[i]?.map fun e : DictEntry => e.key)) R E s := by
  unfold tableMayTell
  by_cases c : ((placesG w ents k).filterMap fun i => ents[i]?.map fun e : DictEntry => e.key).isEmpty = true
  · rw [if_pos c]
    exact wpAny_pure q
  rw [if_neg c]
  refine wpAny_bind (quiet_key k key 8 s rk (by omega) A E _ ?_)
  rw [if_neg (by simp)]
  refine wpAny_bind ?_
  refine wpAny_forIn_list _ (fun rest b s' => s' = s ∧ b = (none, ()) ∧ ∀ v ∈ rest, ∃ k' : NestedKey, NestedIs s.heap k' v ∧ k'.depth ≤ 4) _ ?_ ?_ _ _ ⟨rfl, rfl, fun v hv => ?_⟩
  · rintro x rest b s' ⟨rfl, rfl, hv⟩
    obtain ⟨k', ik, dk'⟩ := hv x List.mem_cons_self
    refine wpAny_bind (quiet_key k' x 8 s' ik (by omega) A E _ ?_)
    rw [if_neg (by simp)]
    exact wpAny_pure ⟨rfl, rfl, fun v m => hv v (List.mem_cons_of_mem _ m)⟩
  · rintro b s' ⟨rfl, rfl, _⟩
    exact wpAny_pure q
  · obtain ⟨i, e, he, rfl⟩ := stored_in hv
    obtain ⟨k', _, ik, dk', _⟩ := T.entry he
    exact ⟨k', ik, dk'⟩
/-- a text among texts alone -/
theorem byText_g {z : Str} {t : Tok} (T : Tb w s.heap ents ks) (hu : A.units + 4 < cLine) (ho : s.heap.get? d = some o) (hd : o.data = .dict ents ep) (rk : NestedIs s.heap k (.str z t)) (dk : k.depth ≤ 4)
    (hall : (ents.all fun e => isExactStrKey e.key) = true) (q : ∀ r, FoundG ks k r → Q r s) : wpAny (model P w) A (foundByValue d (.str z t) ents z) Q E s := by
  have ek : k = .text z := by cases rk; rfl
  subst ek
  have same : ∀ {i : Nat} {e : DictEntry}, ents[i]? = some e → (e.key.isStr z = true ↔ ks[i]? = some (.text z)) := fun {i e} he => by
    obtain ⟨k', hk', ik, _, _⟩ := T.entry he
    rw [hk']
    have ex : isExactStrKey e.key = true := by
      rw [Array.all_eq_true] at hall
      obtain ⟨hi, rfl⟩ := Array.getElem?_eq_some_iff.mp he
      exact hall i hi
    generalize e.key = kv at ik ex
    cases ik with
    | text x u =>
      constructor
      · intro h
        have : x = z := by simpa [Value.isStr] using h
        rw [this]
      · intro h
        have : x = z := NestedKey.text.inj (Option.some.inj h)
        simpa [Value.isStr] using this
    | _ => cases ex
  unfold foundByValue
  cases hf : ents.findIdx? (·.key.isStr z) with
  | none =>
    refine wpAny_pure (q none fun m => ?_)
    obtain ⟨i, hi⟩ := List.mem_iff_getElem?.mp m
    obtain ⟨e, he, _⟩ := T.atKey hi
    have := (same he).mpr hi
    rw [Array.findIdx?_eq_none_iff] at hf
    have h2 := hf e (Array.mem_of_getElem? he)
    rw [h2] at this
    cases this
  | some i =>
    rw [Array.findIdx?_eq_some_iff_getElem] at hf
    obtain ⟨hi, hp, _⟩ := hf
    have he : ents[i]? = some ents[i] := Array.getElem?_eq_getElem hi
    dsimp only
    rw [he]
    dsimp only
    have hk := (same he).mp hp
    obtain ⟨k', hk', ik, dk', _⟩ := T.entry he
    rw [hk] at hk'
    have e2 := Option.some.inj hk'
    subst e2
    refine wpAny_bind (wpAny_dictEpoch ho hd (wpAny_bind (key_eq hu ik rk dk' dk (wpAny_bind (wpAny_dictEpoch ho hd ?_)))))
    show wpAny _ _ (if (ep != ep) = true then _ else _) _ E _
    rw [if_neg (by simp), decide_eq_true rfl]
    refine wpAny_bind (wpAny_rule ?_)
    exact wpAny_pure (q (some i) hk)
/-- what the walk has come to -/
def HitG (ks : List NestedKey) (k : NestedKey) (done : List Nat) : Option Nat → Prop
  | none => ∀ i ∈ done, ks[i]? ≠ some k
  | some j => ks[j]? = some k ∧ j ∈ done
theorem hit_on {done : List Nat} {x : Nat} {k' : NestedKey} {hit : Option Nat} (h : HitG ks k done hit) (hx : ks[x]? = some k') (ne : k' ≠ k) : HitG ks k (done ++ [x]) hit := by
  cases hit with
  | none =>
    intro i hi
    rcases List.mem_append.mp hi with z | z
    · exact h i z
    · rw [List.mem_singleton.mp z, hx]
      exact fun e => ne (Option.some.inj e)
  | some j => exact ⟨h.1, List.mem_append_left _ h.2⟩
theorem hit_found (T : Tb w s.heap ents ks) {done : List Nat} {hit : Option Nat} (h : HitG ks k done hit) (hp : placesG w ents k = done) : FoundG ks k hit := by
  cases hit with
  | none => exact T.not fun i hi => h i (hp ▸ hi)
  | some j => exact h.1
theorem ite_go {α : Type} {M : Model} {c : Prop} [Decidable c] {x y : Sem α} {R : α → Shared → Prop} (h1 : c → wpAny M A x R E s) (h2 : ¬ c → wpAny M A y R E s) : wpAny M A (if c then x else y) R E s := by
  by_cases h : c
  · rw [if_pos h]
    exact h1 h
  · rw [if_neg h]
    exact h2 h
/-- where a key stands -/
theorem find_g (T : Tb w s.heap ents ks) (hu : A.units + 4 < cLine) (ho : s.heap.get? d = some o) (hd : o.data = .dict ents ep) (rk : NestedIs s.heap k key) (dk : k.depth ≤ 4) (q : ∀ r, FoundG ks k r → Q r s) :
    wpAny (model P w) A (dictFind d key (k.hash w)) Q E s := by
  have noChange : ¬ (ents.any fun e => e.key == key && e.hash != k.hash w) = true := by
    rw [← Array.any_toList, List.any_eq_true]
    rintro ⟨e, he, hc⟩
    obtain ⟨i, hi⟩ := List.mem_iff_getElem?.mp he
    obtain ⟨k', hk', ik, _, hh⟩ := T.entry (i := i) (e := e) (by rw [← Array.getElem?_toList]; exact hi)
    rw [Bool.and_eq_true, beq_iff_eq, bne_iff_ne] at hc
    rw [hc.1] at ik
    exact hc.2 (by rw [hh, NestedIs.inj _ _ _ ik rk])
  unfold dictFind
  refine wpAny_holding (wpAny_bind (wpAny_dictEntries ho hd ?_))
  have rk' := rk; clear rk
  cases key
  all_goals
    dsimp only
    try
      by_cases hall : (ents.all fun e => isExactStrKey e.key) = true
      · rw [if_pos hall]
        exact byText_g T hu ho hd rk' dk hall q
      rw [if_neg hall]
    refine ite_go (fun _ => walk_g T hu ho hd rk' dk q) fun _ => ?_
    try rw [if_neg noChange]
    refine ite_go (fun _ => wpAny_bind (wpAny_pure ?_)) fun _ => wpAny_bind (tell_g T rk' dk ?_)
    all_goals
      rw [if_neg (by simp)]
      refine wpAny_bind ?_
      refine wpAny_forIn_list _ (fun rest b s' => s' = s ∧ ∃ hit, b = (none, hit) ∧ ∃ done, placesG w ents k = done ++ rest ∧ HitG ks k done hit) _ ?_ ?_ _ _ ⟨rfl, none, rfl, [], rfl, fun _ h => by simp at h⟩
      · rintro x rest b s' ⟨rfl, hit, rfl, done, hp, hH⟩
        obtain ⟨e, he, hh⟩ := place_in.mp (show x ∈ placesG w ents k by rw [hp]; simp)
        obtain ⟨k', hk', ik', dk', _⟩ := T.entry he
        have hp2 : placesG w ents k = (done ++ [x]) ++ rest := by rw [hp]; simp
        simp only [he]
        rw [if_pos (by rw [hh]; simp)]
        refine wpAny_bind (wpAny_dictEpoch ho hd (wpAny_bind (key_eq hu ik' rk' dk' dk (wpAny_bind (wpAny_dictEpoch ho hd ?_)))))
        show wpAny _ _ (if (ep != ep) = true then _ else _) _ E _
        rw [if_neg (by simp)]
        by_cases c : k' = k
        · subst c
          have hn : hit = none := by
            cases hit with
            | none => rfl
            | some j =>
              have := T.one hH.1 hk'
              subst this
              have nd : (placesG w ents k').Nodup := place_nd
              rw [hp] at nd
              exact absurd rfl ((List.nodup_append.mp nd).2.2 j hH.2 j List.mem_cons_self)
          subst hn
          rw [decide_eq_true rfl]
          simp only [Option.isSome_none, Bool.false_eq_true, if_false, if_true]
          refine wpAny_bind (wpAny_rule ?_)
          split
          · exact wpAny_pure (wpAny_pure (q (some x) hk'))
          · exact wpAny_pure ⟨rfl, some x, rfl, done ++ [x], hp2, hk', by simp⟩
        · rw [decide_eq_false c]
          simp only [Bool.false_eq_true, if_false, Bool.false_and]
          refine wpAny_bind (wpAny_rule ?_)
          exact wpAny_pure ⟨rfl, hit, rfl, done ++ [x], hp2, hit_on hH hk' c⟩
      · rintro b s' ⟨rfl, hit, rfl, done, hp, hH⟩
        exact wpAny_pure (q hit (hit_found T hH (by rw [hp, List.append_nil])))
end
end RM

set_option Elab.async false
set_option linter.all false
set_option maxRecDepth 100000
set_option maxHeartbeats 2000000
/-! such a dict as a tracked thing; dicts of texts and numbers seen so, and back -/
namespace RM
open PySem PySem.Spec PyProof.Rows L2
/-- an entry: its key, what key it is, its value -/
abbrev GE := V × NestedKey × V
def EntG (w : World) (p : GE) (e : DictEntry) : Prop := RelV p.1 e.key ∧ e.hash = p.2.1.hash w ∧ RelV p.2.2 e.val
def GD (w : World) (h : Heap) (d : Addr) (es : List GE) : Prop := (d == sysModules) = false ∧ es.length ≤ 1000 ∧ ∃ ents ep, h.DictRaw d ents ep ∧ Paired (EntG w) es ents.toList
def gO (w : World) (d : Addr) (es : List GE) : HO := .ext fun h => GD w h d es
/-- what key a thing is -/
inductive KeyG (K : PySem.W.Frag) (H : Hp) : V → NestedKey → Prop
  | str (z : Str) : KeyG K H (.str z) (.text z)
  | int (i : Int) : KeyG K H (.int i) (.num i)
  | non : KeyG K H .non .none
  | one {t : Addr} {z : Str} (h : SqT K H t [.str z]) : KeyG K H (.ref t) (.tup [.text z])
  | oneI {t : Addr} {n : Int} (h : SqT K H t [.int n]) : KeyG K H (.ref t) (.tup [.num n])
structure OkG (K : PySem.W.Frag) (H : Hp) (es : List GE) : Prop where
  key : ∀ p ∈ es, KeyG K H p.1 p.2.1
  nd : (es.map (·.2.1)).Nodup
theorem KeyG.keep {K : PySem.W.Frag} {H H' : Hp} {v : V} {k : NestedKey} (h : KeyG K H v k) (e : ∀ a xs, SqT K H a xs → SqT K H' a xs) : KeyG K H' v k := by
  cases h with
  | str z => exact .str z
  | int i => exact .int i
  | non => exact .non
  | one h => exact .one (e _ _ h)
  | oneI h => exact .oneI (e _ _ h)
theorem OkG.keep {K : PySem.W.Frag} {H H' : Hp} {es : List GE} (h : OkG K H es) (e : ∀ a xs, SqT K H a xs → SqT K H' a xs) : OkG K H' es := ⟨fun p hp => (h.key p hp).keep e, h.nd⟩
theorem ts_ext {K : PySem.W.Frag} {H : Hp} {d : Addr} {φ : Heap → Prop} {o : HO} (e : H d = some (.ext φ)) : ∀ a xs, SqT K H a xs → SqT K (upd H d o) a xs := fun a xs h => by
  rcases h with h | h
  · have ne : a ≠ d := fun z => by
      rcases h with h | ⟨o, h⟩ <;> (rw [z, e] at h; cases h)
    rcases h with h | ⟨o, h⟩
    · exact .inl (.inl (by rw [upd_ne ne]; exact h))
    · exact .inl (.inr ⟨o, by rw [upd_ne ne]; exact h⟩)
  · exact .inr h
/-- the value at a key -/
def atG (es : List GE) (k : NestedKey) : Option V := (es.find? fun p => decide (p.2.1 = k)).map (·.2.2)
/-- put in its place, or at the end -/
def putG (es : List GE) (i : V) (k : NestedKey) (v : V) : List GE := if k ∈ es.map (·.2.1) then es.map fun p => if p.2.1 = k then (p.1, k, v) else p else es ++ [(i, k, v)]
theorem putG_keys (es : List GE) (i : V) (k : NestedKey) (v : V) : (putG es i k v).map (·.2.1) = if k ∈ es.map (·.2.1) then es.map (·.2.1) else es.map (·.2.1) ++ [k] := by
  unfold putG
  by_cases c : k ∈ es.map (·.2.1)
  · rw [if_pos c, if_pos c, List.map_map]
    refine List.map_congr_left fun p _ => ?_
    by_cases z : p.2.1 = k
    · simp [z]
    · simp [z]
  · rw [if_neg c, if_neg c, List.map_append]
    rfl
theorem putG_len (es : List GE) (i : V) (k : NestedKey) (v : V) : (putG es i k v).length ≤ es.length + 1 := by
  unfold putG
  split
  · rw [List.length_map]; omega
  · rw [List.length_append]; exact Nat.le_refl _
theorem OkG.put {K : PySem.W.Frag} {H : Hp} {es : List GE} {i v : V} {k : NestedKey} (h : OkG K H es) (hk : KeyG K H i k) : OkG K H (putG es i k v) := by
  refine ⟨fun p hp => ?_, ?_⟩
  · unfold putG at hp
    split at hp
    · obtain ⟨q, hq, rfl⟩ := List.mem_map.mp hp
      by_cases z : q.2.1 = k
      · rw [if_pos z]
        have := h.key q hq
        rw [z] at this
        exact this
      · rw [if_neg z]
        exact h.key q hq
    · rcases List.mem_append.mp hp with z | z
      · exact h.key p z
      · rw [List.mem_singleton.mp z]
        exact hk
  · rw [putG_keys]
    split
    · exact h.nd
    · rename_i c
      exact List.nodup_append.mpr ⟨h.nd, by simp, fun a ha b hb e => c (by rw [List.mem_singleton.mp hb] at e; exact e ▸ ha)⟩
section
variable {X : Cx} {pins : List (Addr × Obj)} {σ : L2.St} {H : Hp} {s : Shared} {d : Addr} {es : List GE}
theorem KeyG.is {v : V} {k : NestedKey} {u : Value} (I : Inv X pins σ H s) (h : KeyG X.K H v k) (r : RelV v u) : NestedIs s.heap k u ∧ k.depth ≤ 4 := by
  cases h with
  | str z => obtain ⟨t, e⟩ := (show ∃ t, u = Value.str z t from r); subst e; exact ⟨.text z t, Nat.zero_le _⟩
  | int i => obtain ⟨t, e⟩ := (show ∃ t, u = Value.int i t from r); subst e; exact ⟨.int i t, Nat.zero_le _⟩
  | non => cases (show u = Value.none from r); exact ⟨.none, Nat.zero_le _⟩
  | @one t z h =>
    cases (show u = Value.ref t from r)
    obtain ⟨its, rv, ⟨o, e1, e2, n, e3⟩, _⟩ := I.tuple h
    refine ⟨.tup e1 e2 e3 ?_, by show 0 + 1 ≤ 4; omega⟩
    cases rv with
    | cons r1 r2 =>
      cases r2
      obtain ⟨t', e⟩ := (show ∃ t, _ = Value.str z t from r1)
      subst e
      exact .cons (.text z t') .nil
  | @oneI t n h =>
    cases (show u = Value.ref t from r)
    obtain ⟨its, rv, ⟨o, e1, e2, n', e3⟩, _⟩ := I.tuple h
    refine ⟨.tup e1 e2 e3 ?_, by show 0 + 1 ≤ 4; omega⟩
    cases rv with
    | cons r1 r2 =>
      cases r2
      obtain ⟨t', e⟩ := (show ∃ t, _ = Value.int n t from r1)
      subst e
      exact .cons (.int n t') .nil
theorem pr_mem {α β : Type} {F : α → β → Prop} : ∀ {l : List α} {m : List β}, Paired F l m → ∀ {G : α → β → Prop}, (∀ a ∈ l, ∀ b, F a b → G a b) → Paired G l m
  | _, _, .nil, _, _ => .nil
  | _, _, .cons r t, _, f => .cons (f _ List.mem_cons_self _ r) (pr_mem t fun a ha b hb => f a (List.mem_cons_of_mem _ ha) b hb)
theorem pr_map {α β γ : Type} {F : γ → β → Prop} (g : α → γ) : ∀ {l : List α} {m : List β}, Paired (fun a b => F (g a) b) l m → Paired F (l.map g) m
  | _, _, .nil => .nil
  | _, _, .cons r t => .cons r (pr_map g t)
/-- the entries as a table -/
theorem tb_of {ents : Array DictEntry} (I : Inv X pins σ H s) (ok : OkG X.K H es) (p : Paired (EntG X.w) es ents.toList) : Tb X.w s.heap ents (es.map (·.2.1)) :=
  ⟨pr_map (fun q : GE => q.2.1) (pr_mem p fun a ha b hb => by
    obtain ⟨h1, h2⟩ := (ok.key a ha).is I hb.1
    exact ⟨h1, h2, hb.2.1⟩), ok.nd⟩
theorem gd_of (I : Inv X pins σ H s) (e : Rd H d (gO X.w d es)) : GD X.w s.heap d es := by
  rcases e with e | ⟨o, e⟩
  · exact (I.hok d _ e).1
  · exact (I.hok d _ e).2.1
theorem gd_new {P : Program} {w : World} {H' : Hp} {h : Heap} (g : GD w h d es) : ObjOk P w H' h d (gO w d es) := by
  refine ⟨g, ?_, fun h1 h2 p k => ?_⟩
  · obtain ⟨_, _, _, _, ⟨o, e, _⟩, _⟩ := g
    exact ⟨o, e⟩
  · obtain ⟨a, b, c, f, r, q⟩ := p
    exact ⟨a, b, c, f, r.at k, q⟩
theorem get_raw {P : Program} {w : World} {A : Around} {E : Value → Shared → Prop} {s : Shared} {ents : Array DictEntry} {ep : Nat} {ks : List NestedKey} {k : NestedKey} {key : Value} {Q : Value → Shared → Prop} (hu : A.units + 8 < cLine) (T : Tb w s.heap ents ks) (R : s.heap.DictRaw d ents ep)
    (rk : NestedIs s.heap k key) (dk : k.depth ≤ 4) {i : Nat} (hi : ks[i]? = some k) (q : ∀ e t, ents[i]? = some e → Q e.val { s with toks := t }) : wpAny (model P w) A (getItem (.ref d) key) Q E s := by
  obtain ⟨o, ho, hc, hd⟩ := id R
  have ty : s.TypeIs (.ref d) "dict" := ⟨o, ho, hc.1⟩
  unfold getItem
  refine wpAny_holding (wpAny_bind (wpAny_sequenceKey ty (by decide) ?_))
  refine wpAny_bind (wpAny_callSpecial?_slot (name := Str.ofString "__getitem__") ty F.slot_dict_getitem (wpAny_call_entry F.slot_dict_getitem ty F.entry_dict_getitem ?_ (F.args_dict_getitem_2 _ _)))
  show wpAny _ _ (dictGet d key >>= _) _ _ s
  refine wpAny_bind ?_
  unfold dictGet
  refine wpAny_holding (wpAny_bind (pyHash_key k key _ s _ rk ?_ (wpAny_bind (find_g (s := { s with toks := s.toks + k.draws }) T ?_ ho hd rk dk fun r hr => ?_))))
  · show A.units + 1 + k.depth < cLine
    omega
  · show A.units + 1 + 4 < cLine
    omega
  · cases r with
    | none => exact absurd (List.mem_of_getElem? hi) hr
    | some j =>
      have := T.one hi hr
      subst this
      obtain ⟨e, he, _⟩ := T.atKey hi
      refine wpAny_bind (wpAny_dictEntries (s := { s with toks := s.toks + k.draws }) ho hd ?_)
      rw [he]
      exact wpAny_pure (wpAny_pure ⟨e.val, rfl, wpAny_pure (q e _ he)⟩)
theorem upd_toList {ents : Array DictEntry} (i : Nat) (f : DictEntry → DictEntry) : (ents.modify i f).toList = ents.toList.modify i f := by
  rw [Array.toList_modify]
theorem pr_keep {α β : Type} {F G : α → β → Prop} {g : α → α} : ∀ {l : List α} {m : List β}, Paired F l m → (∀ (i : Nat) a b, l[i]? = some a → F a b → G (g a) b) → Paired G (l.map g) m
  | _, _, .nil, _ => .nil
  | _, _, .cons r t, h => .cons (h 0 _ _ rfl r) (pr_keep t fun i a b e f => h (i + 1) a b (by simpa using e) f)
theorem pr_mod {α β : Type} {F G : α → β → Prop} {g : α → α} {f : β → β} : ∀ {l : List α} {m : List β} (j : Nat), Paired F l m → (∀ (i : Nat) a b, l[i]? = some a → F a b → G (g a) (if i = j then f b else b)) → Paired G (l.map g) (m.modify j f)
  | _, _, j, .nil, _ => by
    cases j <;> exact .nil
  | _, _, 0, .cons r t, h => .cons (by have := h 0 _ _ rfl r; rw [if_pos rfl] at this; exact this) (pr_keep t fun i a b e f => by
      have := h (i + 1) a b (by simpa using e) f
      rw [if_neg (by omega)] at this
      exact this)
  | _, _, j + 1, .cons r t, h => .cons (by have := h 0 _ _ rfl r; rw [if_neg (by omega)] at this; exact this) (pr_mod j t fun i a b e f => by
      have := h (i + 1) a b (by simpa using e) f
      by_cases z : i = j
      · rw [if_pos (by omega)] at this
        rw [if_pos z]
        exact this
      · rw [if_neg (by omega)] at this
        rw [if_neg z]
        exact this)
theorem pr_app {α β : Type} {F : α → β → Prop} : ∀ {l : List α} {m : List β} {l' : List α} {m' : List β}, Paired F l m → Paired F l' m' → Paired F (l ++ l') (m ++ m')
  | _, _, _, _, .nil, h => h
  | _, _, _, _, .cons r t, h => .cons r (pr_app t h)
theorem set_raw {P : Program} {w : World} {A : Around} {E : Value → Shared → Prop} {s : Shared} {ents : Array DictEntry} {ep : Nat} {k : NestedKey} {key val : Value} {i v : V} {Q : Unit → Shared → Prop} (hu : A.units + 8 < cLine) (T : Tb w s.heap ents (es.map (·.2.1))) (R : s.heap.DictRaw d ents ep) (hp : Paired (EntG w) es ents.toList)
    (rk : NestedIs s.heap k key) (dk : k.depth ≤ 4) (ri : RelV i key) (rv : RelV v val) (few : es.length < 1000)
    (q : ∀ h' ents' ep' t, Heap.SameBut d s.heap h' → h'.DictRaw d ents' ep' → Paired (EntG w) (putG es i k v) ents'.toList → Q () { s with heap := h', toks := t }) : wpAny (model P w) A (setItem (.ref d) key val) Q E s := by
  obtain ⟨o, ho, hc, hd⟩ := id R
  have ty : s.TypeIs (.ref d) "dict" := ⟨o, ho, hc.1⟩
  have sz := T.size
  rw [List.length_map] at sz
  unfold setItem
  refine wpAny_holding (wpAny_bind (wpAny_sequenceKey ty (by decide) ?_))
  refine wpAny_bind (wpAny_callSpecial?_slot (name := Str.ofString "__setitem__") ty F.slot_dict_setitem (wpAny_call_entry F.slot_dict_setitem ty F.entry_dict_setitem ?_ (F.args_dict_setitem_3 _ _ _)))
  show wpAny _ _ (Builtin.Dict.notOrdered "__setitem__" ⟨[.ref d, key, val], []⟩ >>= _) _ _ s
  refine wpAny_bind (wpAny_notOrdered_dict ty ?_)
  show wpAny _ _ (dictSet d key val >>= _) _ _ s
  refine wpAny_bind ?_
  unfold dictSet
  refine wpAny_holding (wpAny_bind (pyHash_key k key _ s _ rk ?_ ?_))
  · show A.units + 1 + k.depth < cLine
    omega
  unfold dictSetHashed
  refine wpAny_holding (wpAny_bind (find_g (s := { s with toks := s.toks + k.draws }) T ?_ ho hd rk dk fun r hr => ?_))
  · show A.units + 1 + 4 < cLine
    omega
  cases r with
  | none =>
    refine wpAny_bind (wpAny_rule (wpAny_updateDictKeys (s := { s with toks := s.toks + k.draws }) (hz := by rw [← sz]; exact Nat.le_of_lt (Nat.lt_trans few (by decide))) ho hd ?_))
    refine wpAny_pure ⟨.none, rfl, wpAny_pure (q _ _ (ep + 1) _ (Heap.SameBut.update _ _ _) ⟨_, Heap.get?_update_self _ ho (Obj.isFreed_of_dict (Obj.data_mapDictKeys hd _)), hc.mapDictKeys _, Obj.data_mapDictKeys hd _⟩ ?_)⟩
    have c : ¬ k ∈ es.map (·.2.1) := hr
    unfold putG
    rw [if_neg c, Array.toList_push]
    exact pr_app hp (.cons ⟨ri, rfl, rv⟩ .nil)
  | some j =>
    have hj : (es.map (·.2.1))[j]? = some k := hr
    refine wpAny_bind (wpAny_rule (wpAny_bind (wpAny_updateDict (s := { s with toks := s.toks + k.draws }) (hz := by rw [Array.size_modify]; exact Nat.le_refl _) ho hd ?_)))
    refine wpAny_point ?_
    refine wpAny_pure ⟨.none, rfl, wpAny_pure (q _ _ ep _ (Heap.SameBut.update _ _ _) ⟨_, Heap.get?_update_self _ ho (Obj.isFreed_of_dict (Obj.data_mapDict hd _)), hc.mapDict _, Obj.data_mapDict hd _⟩ ?_)⟩
    have c : k ∈ es.map (·.2.1) := List.mem_of_getElem? hj
    unfold putG
    rw [if_pos c, Array.toList_modify]
    refine pr_mod j hp fun i a b hi hab => ?_
    have hi' : (es.map (·.2.1))[i]? = some a.2.1 := by rw [List.getElem?_map, hi]; rfl
    by_cases z : i = j
    · subst z
      rw [if_pos rfl]
      have ek : a.2.1 = k := Option.some.inj (hi'.symm.trans hj)
      rw [if_pos ek]
      exact ⟨hab.1, by rw [hab.2.1, ek], rv⟩
    · rw [if_neg z, if_neg fun ek => z (T.one hi' (by rw [ek]; exact hj))]
      exact hab
end
end RM

set_option Elab.async false
set_option linter.all false
set_option maxRecDepth 100000
set_option maxHeartbeats 2000000
/-! such dicts seen as dicts of texts and numbers, and back -/
namespace RM
open PySem PySem.Spec PyProof.Rows L2
def keyN : Key → NestedKey
  | .inl i => .num i
  | .inr x => .text x
theorem keyN_inj {a b : Key} (e : keyN a = keyN b) : a = b := by
  cases a <;> cases b <;> first | (cases e; rfl) | exact nomatch e
def ofK (kvs : List (Key × V)) : List GE := kvs.map fun kv => (kV kv.1, keyN kv.1, kv.2)
theorem keyN_hash (w : World) (k : Key) : (keyN k).hash w = keyH w k := by cases k <;> rfl
theorem ofK_keys (kvs : List (Key × V)) : (ofK kvs).map (·.2.1) = (kvs.map (·.1)).map keyN := by
  unfold ofK
  rw [List.map_map, List.map_map]
  rfl
theorem keyG_K {K : PySem.W.Frag} {H : Hp} (k : Key) : KeyG K H (kV k) (keyN k) := by
  cases k with
  | inl i => exact .int i
  | inr x => exact .str x
theorem okG_K {K : PySem.W.Frag} {H : Hp} {kvs : List (Key × V)} (nd : (kvs.map (·.1)).Nodup) : OkG K H (ofK kvs) := by
  refine ⟨fun p hp => ?_, ?_⟩
  · obtain ⟨kv, _, rfl⟩ := List.mem_map.mp hp
    exact keyG_K _
  · rw [ofK_keys]
    exact List.Pairwise.map _ (fun a b ne e => ne (keyN_inj e)) nd
section
variable {P : Program} {w : World} {h : Heap} {d : Addr}
theorem ent_of : ∀ {l : List DictEntry} {vs : List (Key × Value)} {kvs : List (Key × V)}, Pairs (mixKind P w) l vs → KV kvs vs → (∀ e ∈ l, ∃ k, (mixKind P w).is k e.key = true ∧ e.hash = (mixKind P w).hash k) → Paired (EntG w) (ofK kvs) l
  | _, _, _, .nil, .nil, _ => .nil
  | _, _, _, .cons (e := e) i v t, .cons (a := p) r s, hh => by
    obtain ⟨k, hk, hs⟩ := hh e List.mem_cons_self
    have ek := (mixKind P w).inj _ _ _ hk i
    subst ek
    refine .cons ⟨?_, ?_, ?_⟩ (ent_of t s fun e he => hh e (List.mem_cons_of_mem _ he))
    · show RelV (kV p.1) e.key
      rw [r.1]
      exact relV_key hk
    · show e.hash = (keyN p.1).hash w
      rw [r.1, hs, keyN_hash]
      rfl
    · show RelV p.2 e.val
      rw [v]
      exact r.2
theorem ent_to : ∀ {l : List DictEntry} {kvs : List (Key × V)}, Paired (EntG w) (ofK kvs) l → ∃ vs, KV kvs vs ∧ Pairs (mixKind P w) l vs ∧ ∀ e ∈ l, ∃ k, (mixKind P w).is k e.key = true ∧ e.hash = (mixKind P w).hash k
  | [], [], .nil => ⟨[], .nil, .nil, fun _ h => by simp at h⟩
  | e :: l, kv :: kvs, .cons r t => by
    obtain ⟨vs, h1, h2, h3⟩ := ent_to t
    have hk : (mixKind P w).is kv.1 e.key = true := kV_is r.1
    refine ⟨(kv.1, e.val) :: vs, .cons ⟨rfl, r.2.2⟩ h1, .cons hk rfl h2, fun e' he => ?_⟩
    rcases List.mem_cons.mp he with z | z
    · subst z
      exact ⟨kv.1, hk, by rw [r.2.1]; exact keyN_hash w kv.1⟩
    · exact h3 e' z
theorem g_of_dk {kvs : List (Key × V)} {H : Hp} (o : ObjOk P w H h d (.dK kvs)) (few : kvs.length ≤ 1000) : GD w h d (ofK kvs) := by
  obtain ⟨z, hd, vs, rel, o, es, ep, e1, ex, dt, ks, ps, nd⟩ := o
  exact ⟨hd, by unfold ofK; rw [List.length_map]; exact few, es, ep, ⟨o, e1, ex, dt⟩, ent_of ps rel fun e he => ks e (Array.mem_toList_iff.mp he)⟩
theorem dk_of_g {kvs : List (Key × V)} {H : Hp} (g : GD w h d (ofK kvs)) (nd : (kvs.map (·.1)).Nodup) : ObjOk P w H h d (.dK kvs) := by
  obtain ⟨hd, few, es, ep, ⟨o, e1, ex, dt⟩, pe⟩ := g
  obtain ⟨vs, h1, h2, h3⟩ := ent_to (P := P) pe
  unfold ofK at few
  rw [List.length_map] at few
  exact ⟨Nat.le_trans few (by decide), hd, vs, h1, o, es, ep, e1, ex, dt, fun e he => h3 e (Array.mem_toList_iff.mpr he), h2, by rw [← h1.keys]; exact nd⟩
end
/-- a dict seen in another way -/
inductive Cv (w : World) : Hp → Hp → Prop
  | refl {H : Hp} : Cv w H H
  | toG {H : Hp} {d : Addr} {kvs : List (Key × V)} (h : H d = some (.dK kvs)) (few : kvs.length ≤ 1000) : Cv w H (upd H d (gO w d (ofK kvs)))
  | toK {H : Hp} {d : Addr} {kvs : List (Key × V)} (h : H d = some (gO w d (ofK kvs))) (nd : (kvs.map (·.1)).Nodup) : Cv w H (upd H d (.dK kvs))
  | two {H H' H'' : Hp} (a : Cv w H H') (b : Cv w H' H'') : Cv w H H''
section
variable {X : Cx} {pins : List (Addr × Obj)} {σ : L2.St} {H H' : Hp} {s : Shared}
theorem inv_xch {d : Addr} {u o : HO} (I : Inv X pins σ H s) (h : H d = some u) (mu : Mut (some u)) (ex : ∃ q, s.heap.get? d = some q) (new : ObjOk X.prog X.w (upd H d o) s.heap d o) : Inv X pins σ (upd H d o) s :=
  I.write (x := d) (e := d) (o := o) (h' := s.heap) (t' := s.toks) (by rw [h]; exact mu) (.inl rfl) (fun _ _ _ e => e) ex new
theorem Cv.inv (c : Cv X.w H H') : ∀ {s : Shared}, Inv X pins σ H s → Inv X pins σ H' s := by
  induction c with
  | refl => exact fun I => I
  | @toG H d kvs h few =>
    intro s I
    have g := g_of_dk (I.hok d _ h) few
    obtain ⟨hd, fw, es, ep, ⟨o, e1, ex, dt⟩, pe⟩ := id g
    exact inv_xch I h True.intro ⟨o, e1⟩ (gd_new g)
  | @toK H d kvs h nd =>
    intro s I
    have g := gd_of I (.inl h)
    obtain ⟨hd, fw, es, ep, ⟨o, e1, ex, dt⟩, pe⟩ := id g
    exact inv_xch I h True.intro ⟨o, e1⟩ (dk_of_g g nd)
  | two _ _ ih1 ih2 => exact fun I => ih2 (ih1 I)
end
/-- seen in another way ahead of a statement and behind it -/
def sCv (w : World) (t : L2.TS) : L2.TS := fun D σ H => ∃ H1, Cv w H H1 ∧ t ⟨fun σ' H' => ∃ H2, Cv w H' H2 ∧ D.nx σ' H2, fun v H' => ∃ H2, Cv w H' H2 ∧ D.rt v H2, fun σ' H' => ∃ H2, Cv w H' H2 ∧ D.bk σ' H2, fun σ' H' => ∃ H2, Cv w H' H2 ∧ D.ct σ' H2⟩ σ H1
section
variable {X : Cx}
theorem ps_cv {st : Stmt} {t : L2.TS} (h : PS X st t) : PS X st (sCv X.w t) := by
  refine ⟨fun pins s σ H D I hw => ?_⟩
  obtain ⟨H1, c, hw⟩ := hw
  refine thn (h.run pins s σ _ _ (c.inv I) hw) fun f s1 q => ?_
  cases f with
  | next => obtain ⟨σ', H', I2, H2, c, q⟩ := q; exact ⟨σ', H2, c.inv I2, q⟩
  | brk => obtain ⟨σ', H', I2, H2, c, q⟩ := q; exact ⟨σ', H2, c.inv I2, q⟩
  | cont => obtain ⟨σ', H', I2, H2, c, q⟩ := q; exact ⟨σ', H2, c.inv I2, q⟩
  | ret v => obtain ⟨x, σ', H', I2, r, H2, c, q⟩ := q; exact ⟨x, σ', H2, c.inv I2, r, q⟩
end
end RM

set_option Elab.async false
set_option linter.all false
set_option maxRecDepth 100000
set_option maxHeartbeats 2000000
/-! rules over such dicts: isinstance, len, for, [], []= -/
namespace RM
open PySem PySem.Spec PyProof.Rows L2
theorem room8 {k : Nat} {A : Around} (hr : Room k A) : A.units + 8 < cLine := by have := hr.un; omega
section
variable {X : Cx} {pins : List (Addr × Obj)} {σ : L2.St} {H : Hp} {s : Shared}
/-! ### isinstance, len -/
def rIsiG (K : PySem.W.Frag) (w : World) : List V → Hp → VK → Prop := fun xs H Q => ∃ (a : Addr) (c : V) (u : Value) (es : List GE) (b : Bool), xs = [.ref a, c] ∧ ClsV c u ∧ Rd H a (gO w a es) ∧ PySem.W.kitOne K (.type "dict") u = some b ∧ Q (.bl b) H
theorem call_isiG : CallR X (.builtin "isinstance") (rIsiG X.K X.w) := by
  intro pins s σ H xs us Q I r h
  obtain ⟨a, c, u, es, b, rfl, k, ha, e, q⟩ := h
  obtain ⟨u1, u2, rfl, r1, r2⟩ := vals2 r
  have e2 := k.eq r2
  subst e2
  cases (show u1 = Value.ref a from r1)
  obtain ⟨_, _, _, _, ⟨o, e1, ex, _⟩, _⟩ := gd_of I ha
  exact PySem.W.kia_one PySem.W.kitx_dict I.kIn ⟨o, e1, ex.1⟩ e (fun z => nomatch z) fun tk => ⟨.bl b, H, I.tok tk, rfl, q⟩
theorem len_g {P : Program} {w : World} {A : Around} {E : Value → Shared → Prop} {s : Shared} {d : Addr} {ents : Array DictEntry} {ep : Nat} {Q : Value → Shared → Prop} (hd : (d == sysModules) = false) (R : s.heap.DictRaw d ents ep) (few : ents.size ≤ 1000)
    (q : ∀ t t', Q (.int ents.size t) { s with toks := t' }) : wpAny (model P w) A (call (.builtin "len") [.ref d]) Q E s := by
  refine Calls.call_function_entry kind_len plain_len entry_len (args_len1 _) ?_
  unfold Builtin.«len»
  refine wpAny_bind (m := oneArg "len" _) (wpAny_pure ?_)
  refine wpAny_bind (m := callSpecial? (.ref d) (Str.ofString "__len__")) (wpAny_callSpecial?_slot (name := Str.ofString "__len__") R.typeIs F.slot_dict_len (call_len_raw hd R ?_))
  have below : ¬ ((ents.size : Int) ≥ 2 ^ 63) := by omega
  have above : ¬ ((ents.size : Int) < 0) := by omega
  refine wpAny_bind (wpAny_holding (wpAny_pure (wpAny_bind (wpAny_letGo ?_))))
  exact ite_go (fun z => absurd z above) fun _ => ite_go (fun z => absurd z below) fun _ => wpAny_bind (wpAny_mkInt (wpAny_pure ⟨_, rfl, q _ _⟩))
def rLenG (w : World) : List V → Hp → VK → Prop := fun xs H Q => ∃ (a : Addr) (es : List GE), xs = [.ref a] ∧ Rd H a (gO w a es) ∧ Q (.int (es.length : Nat)) H
theorem call_lenG : CallR X (.builtin "len") (rLenG X.w) := by
  intro pins s σ H xs us Q I r h
  obtain ⟨a, es, rfl, ha, q⟩ := h
  obtain ⟨u, rfl, ru⟩ := vals1 r
  cases (show u = Value.ref a from ru)
  obtain ⟨hd, few, ents, ep, R, pe⟩ := gd_of I ha
  have l := Paired.length pe
  rw [Array.length_toList (xs := ents)] at l
  refine len_g hd R (by omega) fun t t' => ⟨.int (es.length : Nat), H, I.tok t', ⟨t, by rw [l]⟩, q⟩
/-! ### for -/
def Itg (w : World) (d : Addr) (o : Obj) (es : List GE) : It :=
  ⟨fun i H => H d = some (.frz o (gO w d es)) ∧ i < es.length, fun i H x H' => H' = H ∧ ∃ p, es[i]? = some p ∧ x = p.1, fun i H => H d = some (.frz o (gO w d es)) ∧ es.length ≤ i⟩
theorem frz_g {d : Addr} {o : Obj} {es : List GE} (I : Inv X pins σ H s) (h : H d = some (.frz o (gO X.w d es))) : (d == sysModules) = false ∧ s.heap.get? d = some o ∧ o.ExactDict ∧ ∃ ents ep, o.data = .dict ents ep ∧ ents.size = es.length ∧ Paired (EntG X.w) es ents.toList := by
  obtain ⟨hd, g, _⟩ := I.hok d _ h
  obtain ⟨a, _, ents, ep, ⟨o', e1, ex, dt⟩, pe⟩ := (show GD X.w s.heap d es from g)
  rw [hd] at e1
  cases e1
  have l := Paired.length pe
  rw [Array.length_toList (xs := ents)] at l
  exact ⟨a, hd, ex, ents, ep, dt, l.symm, pe⟩
theorem turn_g {K : PySem.W.Frag} {tg : Expr} {P : Program} {w : World} {d : Addr} {o : Obj} {es : List GE} {ents : Array DictEntry} {ep : Nat} (it : Addr) (hod : o.data = .dict ents ep) :
    Turn P w K tg (Itg w d o es) [it] it (fun i h => h.IsKeyIter it d i es.length ep) where
  mem := by simp
  obj := fun i h st b hb => by
    obtain rfl : b = it := by simpa using hb
    obtain ⟨oi, e, c, dd⟩ := st
    exact ⟨oi, e, fun v z => by rw [dd] at z; cases z⟩
  keep := fun i h h' st k => st.at fun oi e => k it (by simp) oi e
  item := by
    intro X hP hw hK hc i pins s σ H E I hf st hg
    subst hP hw hK
    obtain ⟨hd, hi⟩ := hg
    have ff := hf it (by simp)
    obtain ⟨hs, hgd, hx, es', ep', hdt, hsz, pe⟩ := frz_g I hd
    obtain ⟨rfl, rfl⟩ := dict_ep hod hdt
    rw [← hsz] at st
    have hi2 : i < es'.size := by omega
    refine wpAny_pyNext_keys_item_raw st ⟨o, hgd, hx, hdt⟩ hi2 fun h' st' sb => ?_
    have I1 : Inv X pins σ H { s with heap := h' } := I.turned (t' := s.toks) (fun b ob hb e => (sb.2 b hb).trans e) ff.1 ff.2.1 ff.2.2.2.1 ff.2.2.2.2.1 ff.2.2.2.2.2
    obtain ⟨oi, e, c, dd⟩ := id st'
    obtain ⟨en, he, r⟩ := pr_left pe (List.getElem?_eq_getElem hi)
    rw [Array.getElem?_toList, Array.getElem?_eq_getElem hi2] at he
    have he := Option.some.inj he
    refine ⟨_, rfl, go_of (s := { s with heap := h' }) e c dd (by decide) ⟨es[i].1, H, I1, by rw [he]; exact r.1, ⟨rfl, es[i], List.getElem?_eq_getElem hi, rfl⟩, ?_, fun b hb => (hf b hb).1⟩⟩
    show h'.IsKeyIter it d (i + 1) es.length _
    rw [← hsz]
    exact st'
  done := by
    intro X hP hw hK hc i pins s σ H E I hf st hg
    subst hP hw hK
    obtain ⟨hd, hi⟩ := hg
    have ff := hf it (by simp)
    obtain ⟨hs, hgd, hx, es', ep', hdt, hsz, pe⟩ := frz_g I hd
    obtain ⟨rfl, rfl⟩ := dict_ep hod hdt
    exact next_key_end (I.ok.hd hc) st hgd hdt hsz hi fun h' eb => ⟨rfl, I.turned (t' := s.toks) (fun b ob hb e => eb b ob hb e) ff.1 ff.2.1 ff.2.2.2.1 ff.2.2.2.2.1 ff.2.2.2.2.2⟩
  self := fun A i s Q E st h => wpAny_pyIter_keyiter st h
def iKeysG (w : World) (td : TE) : TI := fun σ H R => td σ H fun x H1 => ∃ d o es, x = .ref d ∧ H1 d = some (.frz o (gO w d es)) ∧ R (Itg w d o es) H1
theorem pi_keysG {tg e : Expr} {td : TE} (he : PE X e td) : PI X tg e (iKeysG X.w td) := by
  refine ⟨fun pins s σ H R I h => ?_⟩
  refine thn (he.run pins s σ H _ I h) fun u s1 ⟨x, H1, I1, rx, d, o, es, ex, hd, q⟩ => ?_
  subst ex
  obtain rfl : u = Value.ref d := rx
  obtain ⟨hs, hgd, hx, ents, ep, hdt, hsz, pe⟩ := frz_g I1 hd
  refine iter_keys hs hgd hx hdt (pi_one (tk := s1.toks) I1 _ (turn_g _ hdt) ⟨_, Heap.get?_push_size _ rfl, rfl, ?_⟩ q)
  rw [hsz] <;> rfl
theorem walk_g_keys {w : World} {d : Addr} {o : Obj} {es : List GE} : Walk (Itg w d o es) es.length (fun H => H d = some (.frz o (gO w d es))) (fun i H x H' => H' = H ∧ ∃ p, es[i]? = some p ∧ x = p.1) :=
  ⟨fun _ _ hi q => ⟨q, hi⟩, fun _ q => ⟨q, Nat.le_refl _⟩, fun _ _ _ _ _ _ y => y⟩
/-! ### [] -/
def tGGet (K : PySem.W.Frag) (w : World) (td ty : TE) : TE := fun σ H Q => td σ H fun x H1 => ty σ H1 fun y H2 => ∃ (a : Addr) (es : List GE) (k : NestedKey) (v i : V) (j : Nat), x = .ref a ∧ Rd H2 a (gO w a es) ∧ OkG K H2 es ∧ KeyG K H2 y k ∧ es[j]? = some (i, k, v) ∧ Q v H2
theorem pe_gget {K : PySem.W.Frag} {o i : Expr} {pos : Pos} {td ty : TE} (hK : X.K = K) (hu : X.A.units + 8 < cLine) (ho : PE X o td) (hi : PE X i ty) (hs : NoSl i) : PE X (.Subscript o i pos) (tGGet K X.w td ty) := by
  subst hK
  refine ⟨fun pins s σ H Q I h => ?_⟩
  refine subD_of PySem.F.slot_dict_getitem.lookup hs (thn (ho.run pins s σ H _ I h) fun u s1 ⟨x, H1, I1, rx, q1⟩ => thn (hi.run pins s1 σ H1 _ I1 q1) fun iv s2 ⟨y, H2, I2, ry, a, es, k, v, i', j, ex, g, ok, ky, hj, q2⟩ => ?_)
  subst ex
  obtain rfl : u = Value.ref a := rx
  obtain ⟨hd, few, ents, ep, R, pe⟩ := gd_of I2 g
  obtain ⟨rk, dk⟩ := ky.is I2 ry
  refine ⟨R.typeIs, get_raw hu (tb_of I2 ok pe) R rk dk (i := j) (by rw [List.getElem?_map, hj]; rfl) fun e t he => ?_⟩
  obtain ⟨e', he', r⟩ := pr_left pe hj
  rw [Array.getElem?_toList, he] at he'
  cases he'
  exact ⟨v, H2, I2.tok t, r.2.2, q2⟩
/-! ### []= -/
def sGPut (K : PySem.W.Frag) (w : World) (td ty tv : TE) : L2.TS := fun D σ H => tv σ H fun v H1 => td σ H1 fun x H2 => ty σ H2 fun y H3 => ∃ (a : Addr) (es : List GE) (k : NestedKey), x = .ref a ∧ H3 a = some (gO w a es) ∧ OkG K H3 es ∧ KeyG K H3 y k ∧ es.length < 1000 ∧ D.nx σ (upd H3 a (gO w a (putG es y k v)))
theorem ps_gput {o i value : Expr} {pos pos' : Pos} {td ty tv : TE} (hu : X.A.units + 8 < cLine) (ho : PE X o td) (hi : PE X i ty) (hv : PE X value tv) (hs : swapsWith value (some (.Subscript o i pos')) pos.line X.env = pure false) :
    PS X (.Assign [.Subscript o i pos'] value pos) (sGPut X.K X.w td ty tv) := by
  refine ⟨fun pins s σ H D I h => ?_⟩
  refine wpAny_Assign_Subscript (thn (hv.run pins s σ H _ I h) fun r s1 ⟨v, H1, I1, rv, q1⟩ => thn (ho.run pins s1 σ H1 _ I1 q1) fun u s2 ⟨x, H2, I2, rx, q2⟩ => thn (hi.run pins s2 σ H2 _ I2 q2) fun iv s3 ⟨y, H3, I3, ry, a, es, k, ex, g, ok, ky, few, q3⟩ => ?_) hs
  subst ex
  obtain rfl : u = Value.ref a := rx
  obtain ⟨hd, _, ents, ep, R, pe⟩ := gd_of I3 (.inl g)
  obtain ⟨rk, dk⟩ := ky.is I3 ry
  refine set_raw hu (tb_of I3 ok pe) R pe rk dk ry rv few fun h' ents' ep' t sb R' pe' => ?_
  obtain ⟨o', e', _⟩ := id R'
  refine ⟨σ, _, I3.write (x := a) (e := a) (by rw [g]; exact True.intro) (.inl rfl) (fun b o ne e => (sb.2 b ne).trans e) ⟨o', e'⟩ (gd_new ⟨hd, ?_, ents', ep', R', pe'⟩), q3⟩
  have := putG_len es y k v
  omega
end
end RM

set_option Elab.async false
set_option linter.all false
set_option maxRecDepth 100000
set_option maxHeartbeats 2000000
namespace RM
open PySem PySem.Spec PyProof.Rows L2
/-! ### dicts of any keys and values: checked, Change(..) -/
def wordE : NestedKey → Bool
  | .text z => isWord z
  | _ => false
def valE : V → Bool
  | .int n => isValue n
  | _ => false
def rightE : GE → Bool := fun p => match p.2.1, p.2.2 with
  | .text z, .int n => isWord z && isValue n
  | _, _ => false
structure EntOk (K : PySem.W.Frag) (H : Hp) (p : GE) : Prop where
  key : KeyG K H p.1 p.2.1
  sz : ∀ z, p.2.1 = .text z → z.length ≤ sizeLine
  val : (∃ n, p.2.2 = .int n) ∨ ∃ d, Dp K H p.2.2 d ∧ noInt d = true ∧ noL d = true
def GOk (K : PySem.W.Frag) (H : Hp) (es : List GE) : Prop := (∀ p ∈ es, EntOk K H p) ∧ (es.map (·.2.1)).Nodup
theorem EntOk.keep {K : PySem.W.Frag} {H H' : Hp} {p : GE} (h : EntOk K H p) (e : TS K H H') : EntOk K H' p :=
  ⟨h.key.keep e, h.sz, h.val.imp_right fun ⟨d, h1, h2, h3⟩ => ⟨d, dp_ts e h1 h3, h2, h3⟩⟩
theorem GOk.keep {K : PySem.W.Frag} {H H' : Hp} {es : List GE} (h : GOk K H es) (e : TS K H H') : GOk K H' es := ⟨fun p hp => (h.1 p hp).keep e, h.2⟩
theorem GOk.okG {K : PySem.W.Frag} {H : Hp} {es : List GE} (h : GOk K H es) : OkG K H es := ⟨fun p hp => (h.1 p hp).key, h.2⟩
/-- the words and numbers of right entries -/
def mOf (es : List GE) : WM := es.filterMap fun p => match p.2.1, p.2.2 with
  | .text z, .int n => some (z, n)
  | _, _ => none
theorem mOf_right {K : PySem.W.Frag} {H : Hp} : ∀ {es : List GE}, (∀ p ∈ es, KeyG K H p.1 p.2.1) → es.all rightE = true → es = ofK (mK (mOf es)) ∧ ∀ q ∈ mOf es, isWord q.1 = true ∧ isValue q.2 = true
  | [], _, _ => ⟨rfl, fun _ h => by simp [mOf] at h⟩
  | p :: r, hk, h => by
    rw [List.all_cons, Bool.and_eq_true] at h
    obtain ⟨i1, i2⟩ := mOf_right (fun q hq => hk q (List.mem_cons_of_mem _ hq)) h.2
    have k0 := hk p List.mem_cons_self
    obtain ⟨i, k, v⟩ := p
    have h0 := h.1
    cases k with
    | text z =>
      cases v with
      | int n =>
        have ei : i = .str z := by cases (show KeyG K H i (.text z) from k0); rfl
        subst ei
        have h0 : (isWord z && isValue n) = true := h0
        rw [Bool.and_eq_true] at h0
        refine ⟨?_, fun q hq => ?_⟩
        · show (V.str z, NestedKey.text z, V.int n) :: r = (V.str z, NestedKey.text z, V.int n) :: ofK (mK (mOf r))
          rw [← i1]
        · rcases List.mem_cons.mp (show q ∈ (z, n) :: mOf r from hq) with e | e
          · rw [e]; exact h0
          · exact i2 q e
      | _ => exact absurd h0 Bool.false_ne_true
    | _ => exact absurd h0 Bool.false_ne_true
theorem mOf_ok {K : PySem.W.Frag} {H : Hp} {es : List GE} (h : GOk K H es) (r : es.all rightE = true) : es = ofK (mK (mOf es)) ∧ okM (mOf es) := by
  obtain ⟨h1, h2⟩ := mOf_right (fun p hp => (h.1 p hp).key) r
  refine ⟨h1, h2, ?_⟩
  have nd := h.2
  rw [h1, ofK_keys] at nd
  have nd2 : ((mK (mOf es)).map (·.1)).Nodup := List.Pairwise.of_map _ (fun a b ne e => ne (by rw [e])) nd
  unfold mK at nd2
  rw [List.map_map] at nd2
  have e : (mOf es).map ((fun x : Key × V => x.1) ∘ fun q : Str × Int => (Sum.inr q.1, V.int q.2)) = ((mOf es).map (·.1)).map Sum.inr := by rw [List.map_map]; rfl
  rw [e] at nd2
  exact List.Pairwise.of_map _ (fun a b ne e => ne (by rw [e])) nd2
theorem mK_nd {m : WM} (h : okM m) : ((mK m).map (·.1)).Nodup := by
  have e : (mK m).map (·.1) = (m.map (·.1)).map Sum.inr := by unfold mK; rw [List.map_map, List.map_map]; rfl
  rw [e]
  exact List.Pairwise.map _ (fun a b ne z => ne (Sum.inr.inj z)) h.2
theorem gOk_K {K : PySem.W.Frag} {H : Hp} {m : WM} (h : okM m) : GOk K H (ofK (mK m)) := by
  have o : OkG K H (ofK (mK m)) := okG_K (mK_nd h)
  refine ⟨fun p hp => ?_, o.nd⟩
  obtain ⟨kv, hkv, rfl⟩ := List.mem_map.mp hp
  obtain ⟨q, hq, rfl⟩ := List.mem_map.mp hkv
  refine ⟨keyG_K (.inr q.1), fun z e => ?_, .inl ⟨_, rfl⟩⟩
  have e : NestedKey.text q.1 = .text z := e
  cases e
  exact word_size (h.1 q hq).1
theorem mOf_K (m : WM) : mOf (ofK (mK m)) = m := by
  induction m with
  | nil => rfl
  | cons q r ih =>
    show (q.1, q.2) :: mOf (ofK (mK r)) = q :: r
    rw [ih]
theorem right_K {m : WM} (h : okM m) : (ofK (mK m)).all rightE = true := by
  rw [List.all_eq_true]
  intro p hp
  obtain ⟨kv, hkv, rfl⟩ := List.mem_map.mp hp
  obtain ⟨q, hq, rfl⟩ := List.mem_map.mp hkv
  obtain ⟨h1, h2⟩ := h.1 q hq
  show (isWord q.1 && isValue q.2) = true
  rw [h1, h2]
  rfl
theorem ofK_len (kvs : List (Key × V)) : (ofK kvs).length = kvs.length := List.length_map ..
theorem mOf_len {es : List GE} (e : es = ofK (mK (mOf es))) : (mOf es).length = es.length := by
  have := congrArg List.length e
  rw [ofK_len] at this
  rw [this]
  exact (List.length_map ..).symm
section
variable {P : Program} {w : World} {K : PySem.W.Frag} {mg : Str → Option Value} {base : Heap}
/-- right: least to four entries, each a word with a value -/
def goodG (es : List GE) (least : Nat) : Bool := decide (least ≤ es.length) && decide (es.length ≤ 4) && es.all rightE
def spChkX (K : PySem.W.Frag) (w : World) : Sp := fun vs H Q E => match vs with
  | [x, y] => ∃ (a : Addr) (es : List GE) (least : Nat), x = .ref a ∧ y = .int least ∧ H a = some (gO w a es) ∧ GOk K H es ∧ es.length ≤ 1000 ∧
    (goodG es least = true → ∀ p H' m2, Same H H' → H p = none → H' p = some (.dK (mK m2)) → SortM (mOf es) m2 → Q (.ref p) H') ∧
    (goodG es least = false → ∀ H', Same H H' → E (.ref (He.ga K "BadValues")) none H')
  | _ => False
/-- what is_word answers of a key -/
theorem word_g {H : Hp} {p : GE} {Q : VK} {E : XK} (h : EntOk K H p) (q : Q (.bl (wordE p.2.1)) H) : spIsWordG K [p.1] H Q E := by
  obtain ⟨i, k, v⟩ := p
  have hk : KeyG K H i k := h.key
  cases hk with
  | str z => exact .inl ⟨z, rfl, h.sz z rfl, q⟩
  | int i => exact .inr ⟨_, .int i, rfl, q⟩
  | non => exact .inr ⟨_, .non, rfl, q⟩
  | @one t z ht => exact .inr ⟨.tuple [.str z], .tup ht (.cons (.str z) .nil), rfl, q⟩
  | @oneI t n ht => exact .inr ⟨.tuple [.int n], .tup ht (.cons (.int n) .nil), rfl, q⟩
theorem value_g {H : Hp} {p : GE} {Q : VK} {E : XK} (h : EntOk K H p) (q : Q (.bl (valE p.2.2)) H) : spIsValueG K [p.2.2] H Q E := by
  obtain ⟨i, k, v⟩ := p
  rcases h.val with ⟨n, e⟩ | ⟨d, hd, hn, _⟩
  · have e : v = .int n := e
    subst e
    exact .inl ⟨n, rfl, q⟩
  · refine .inr ⟨d, hd, hn, ?_⟩
    have hd : Dp K H v d := hd
    cases hd with
    | int i => cases hn
    | _ => exact q
theorem right_eq (p : GE) : rightE p = (wordE p.2.1 && valE p.2.2) := by
  obtain ⟨i, k, v⟩ := p
  unfold rightE
  cases k <;> cases v <;> first | rfl | exact (Bool.and_false _).symm | exact (Bool.false_and _).symm
theorem cx_checked (T : Top w K mg) : Cal P w K mg base (L2.CX P w) 3 "checked" (spChkX K w) := by
  refine cal_X (f_checked T) (g_checked T) sc_checked (fun _ _ _ _ _ _ us hl => match us, hl with | [_, _], _ => rfl) (fun vs H Q E h => match vs, h with | [_, _], _ => rfl) (fun cdv A outer s H vs Q E hr h => ?_)
  match vs, h with
  | [x, y], h =>
  obtain ⟨a, es, least, rfl, rfl, ha, hg, few, q, qE⟩ := h
  refine ⟨_, (pss_cons (ps_if (PW.pt (pw_or (pt_not (pt_val (pcb (z_isinstance T) call_isiG boot_isinstance (pa_cons (pv 0) (pa_cons (pty (z_dict T) boot_dict) pa_nil))))) (pw_or1 (pt_not (pt_chain op_le op_le (pv 1) (pcb (z_len T) call_lenG boot_len (pa_cons (pv 0) pa_nil)) (pglI (i_MOST_surroundings T)))))))
      (pss_one (ps_raise rfl (takes_of rfl rfl rfl rfl) (pmk_exc0 (xc_BadValues T) (g_BadValues T))))
      pss_nil)
    (pss_cons (ps_lock (ps_for (passes_of rfl) rfl (pi_keysG (pv 0)) (pg_name (i := 2) sc_checked.nd rfl (Or.inl rfl))
      (pss_one (ps_if (PW.pt (pw_or (pt_not (pt_val (pc (cg_is_word T) hr (pa_cons (pv 2) pa_nil)))) (pw_or1 (pt_not (pt_val (pc (cg_is_value T) hr (pa_cons (pe_gget (K := K) rfl (room8 hr) (pv 0) (pv 2) (fun _ _ => rfl)) pa_nil)))))))
      (pss_one (ps_raise rfl (takes_unl (takes_of rfl rfl rfl rfl)) (pmk_exc0 (xc_BadValues T) (g_BadValues T))))
      pss_nil))))
    (pss_one (ps_cv (ps_ret (pe_dc (own := [("key", 2)]) rfl sc_checked.nd (pi_list (pcb (z_sorted T) (call_sortedD rfl) boot_sorted (pa_cons (pv 0) pa_nil))) (blkOk_by (own := [("key", 2)]) (N := ["values", "least", "key"]) (sc := defScope s_checked) (by decide +kernel)) (fun _ _ _ _ _ => (pg_name (i := 2) sc_checked.nd rfl (Or.inl rfl) (Or.inr rfl))) (fun _ _ _ _ _ => pts_nil) (fun _ _ _ _ _ => (pv 2)) (fun _ _ _ _ _ => (pe_dget (hu_of hr) (pv 0) (pv 2) (fun _ _ => rfl))))))))), ?_⟩
  refine ⟨_, rfl, a, _, _, es, true, rfl, .ty _, .inl ha, kit_ty (by decide +kernel), _, rfl, iteF ?_⟩
  refine ⟨_, rfl, _, rfl, a, es, rfl, .inl ha, _, _, rfl, rfl, _, rfl, ?_⟩
  have bad : goodG es least = false → E (.ref (He.ga K "BadValues")) none H := fun z => qE z H (Same.refl _)
  by_cases c1 : least ≤ es.length
  case neg =>
    rw [decide_eq_false (by omega : ¬ ((least : Nat) : Int) ≤ ((es.length : Nat) : Int))]
    exact iteF ⟨_, rfl, ifT rfl (bad (by unfold goodG; rw [decide_eq_false c1]; rfl))⟩
  rw [decide_eq_true (by omega : ((least : Nat) : Int) ≤ ((es.length : Nat) : Int))]
  refine iteT ⟨_, _, rfl, rfl, _, rfl, ?_⟩
  by_cases c2 : es.length ≤ 4
  case neg =>
    refine ifT (by rw [decide_eq_false (show ¬ (((es.length : Nat) : Int) ≤ 4) by omega)]; rfl) (bad (by unfold goodG; rw [decide_eq_false c2, Bool.and_false]; rfl))
  refine ifF (by rw [decide_eq_true (show ((es.length : Nat) : Int) ≤ 4 by omega)]; rfl) ?_
  have gd : goodG es least = es.all rightE := by unfold goodG; rw [decide_eq_true c1, decide_eq_true c2]; rfl
  -- for key in values
  refine ⟨a, gO w a es, ha, trivial, fun od => ?_⟩
  have ts : TS K H (upd H a (.frz od (gO w a es))) := ts_upd _ ha trivial
  have hgL := hg.keep ts
  refine ⟨_, rfl, a, od, es, rfl, upd_same, for_it walk_g_keys (fun i σ H' => H' = upd H a (.frz od (gO w a es)) ∧ (es.take i).all rightE = true ∧ ∃ v, σ = [some (.ref a), some (.int least), v]) ⟨rfl, rfl, _, rfl⟩ (fun i σ H' _ h => by rw [h.1]; exact upd_same) ?_ ?_⟩
  · rintro i x σ H1 H2 hi ⟨rfl, hr, v, rfl⟩ ⟨rfl, p, hp, rfl⟩
    have hm := List.mem_of_getElem? hp
    have ep := hgL.1 p hm
    refine ⟨_, rfl, word_g ep ?_⟩
    have r0 := right_eq p
    have out : rightE p = false → goodG es least = false := fun z => by
      rw [gd]
      cases e : es.all rightE with
      | false => rfl
      | true => rw [List.all_eq_true.mp e p hm] at z; cases z
    have noL : ∀ o' u', H a ≠ some (.frz o' u') := fun o' u' z => by rw [ha] at z; cases z
    cases ew : (wordE p.2.1) with
    | false =>
      rw [ew, Bool.false_and] at r0
      exact ⟨_, rfl, iteT ⟨a, od, gO w a es, upd_same, noL, by rw [upd_back ha]; exact bad (out r0)⟩⟩
    | true =>
    rw [ew, Bool.true_and] at r0
    refine ⟨_, rfl, iteF ⟨_, rfl, _, rfl, a, es, p.2.1, p.2.2, p.1, i, rfl, .inr ⟨od, upd_same⟩, hgL.okG, ep.key, hp, value_g ep ?_⟩⟩
    cases ev : (valE p.2.2) with
    | false =>
      rw [ev] at r0
      exact ⟨_, rfl, ifT rfl ⟨a, od, gO w a es, upd_same, noL, by rw [upd_back ha]; exact bad (out r0)⟩⟩
    | true =>
    rw [ev] at r0
    refine ⟨_, rfl, ifF rfl ⟨rfl, ?_, _, rfl⟩⟩
    rw [List.take_add_one, List.all_append, hr, hp]
    show ([p].all rightE) = true
    rw [List.all_cons, r0]
    rfl
  · rintro σ H1 ⟨rfl, hr, v, rfl⟩
    rw [List.take_length] at hr
    refine ⟨upd_same, ?_⟩
    rw [upd_back ha]
    obtain ⟨e0, hok⟩ := mOf_ok hg hr
    have lm : (mOf es).length = es.length := mOf_len e0
    have ha1 : H a = some (gO w a (ofK (mK (mOf es)))) := by rw [← e0]; exact ha
    refine ⟨_, .toK ha1 (mK_nd hok), ?_⟩
    have hb : (upd H a (.dK (mK (mOf es)))) a = some (.dK (mK (mOf es))) := upd_same
    refine ⟨_, rfl, a, mK (mOf es), (mOf es).map (·.1), rfl, .of hb, by unfold mK; rw [List.map_map, List.map_map]; rfl, by rw [List.length_map]; omega, fun ys p hperm hsort hp => ?_⟩
    refine ⟨p, rfl, ⟨_, SqL.of upd_same⟩, fun D nD => ?_⟩
    have s1 := smNew1 hp (.lst (ys.map V.str))
    have hD0 : (upd H a (.dK (mK (mOf es)))) D = none := s1.free nD
    have ly : ys.length = (mOf es).length := by rw [hperm.length_eq, List.length_map]
    have nd : ys.Nodup := hperm.nodup_iff.mpr hok.2
    have Dp : D ≠ p := fun z => by rw [z, upd_same] at nD; cases nD
    refine dc_walk walk_list (fun i H' => Same (upd H a (.dK (mK (mOf es)))) H' ∧ H' p = some (.lst (ys.map V.str)) ∧ H' D = some (.dK (mK (pick (mOf es) (ys.take i))))) ⟨smNew s1 nD _, by rw [upd_ne (Ne.symm Dp)]; exact upd_same, upd_same⟩ (fun i H' _ h => SqL.of h.2.1) ?_ ?_
    · rintro i x H1 H2 hi ⟨e, hp1, hD⟩ ⟨rfl, hx⟩
      rw [List.getElem?_map] at hx
      obtain ⟨z, hz, rfl⟩ := Option.map_eq_some_iff.mp hx
      obtain ⟨q1, hq1, rfl⟩ := List.mem_map.mp (hperm.mem_iff.mp (List.mem_of_getElem? hz))
      have il := (List.getElem?_eq_some_iff.mp hz).1
      refine ⟨rfl, yesI ?_⟩
      refine ⟨_, rfl, _, rfl, _, rfl, a, .int q1.2, rfl, .inl ⟨mK (mOf es), .inr q1.1, .of (e _ _ hb), rfl, (valV_mK hok.2 q1 hq1).symm⟩, mK (pick (mOf es) (ys.take i)), .inr q1.1, rfl, hD, small1000 ?_, ?_⟩
      · show ((pick (mOf es) (ys.take i)).map _).length ≤ 1000
        rw [List.length_map]
        show ((ys.take i).map _).length ≤ 1000
        rw [List.length_map, List.length_take]
        omega
      · have hne : q1.1 ∉ (pick (mOf es) (ys.take i)).map (·.1) := by
          rw [pick_keys]
          intro hin
          obtain ⟨j, hj, ej⟩ := List.mem_iff_getElem.mp hin
          rw [List.getElem_take] at ej
          have jl : j < i := by rw [List.length_take] at hj; omega
          have := (List.getElem_inj (h₀ := by omega) (h₁ := il) nd).mp (ej.trans (List.getElem?_eq_some_iff.mp hz).2.symm)
          omega
        rw [put_new hne]
        refine ⟨smOut e hD0 _, by rw [upd_ne (Ne.symm Dp)]; exact hp1, ?_⟩
        rw [upd_same, List.take_add_one, hz]
        unfold pick
        rw [List.map_append]
        show some (HO.dK (mK (_ ++ [(q1.1, q1.2)]))) = some (HO.dK (mK (_ ++ [(q1.1, (((mOf es).find? fun q => decide (q.1 = q1.1)).map (·.2)).getD 0)])))
        rw [find_own hok.2 q1 hq1]
    · rintro H1 ⟨e, _, hD⟩
      rw [List.length_map, List.take_length] at hD
      have h1a : H1 a = some (.dK (mK (mOf es))) := e _ _ hb
      have Da : D ≠ a := fun z => by rw [z, hb] at hD0; cases hD0
      refine ⟨_, .toG h1a (by show ((mOf es).map _).length ≤ 1000; rw [List.length_map]; omega), ?_⟩
      refine q (by rw [gd]; exact hr) D _ (pick (mOf es) ys) (fun b u hu => ?_) (by rw [upd_ne Da] at hD0; exact hD0) (by rw [upd_ne Da]; exact hD) ⟨pick_perm hok.2 hperm, by rw [pick_keys]; exact hsort⟩
      by_cases z : b = a
      · rw [z, upd_same, ← hu, z, ha1]
        rfl
      · rw [upd_ne z]
        exact e _ _ (by rw [upd_ne z]; exact hu)
def ChgP (K : PySem.W.Frag) (H : Hp) (a : Addr) (m : WM) (p : Addr) : Prop := ∃ dx, H a = some (.ins (He.ga K "Change") dx [("given", .ref p)]) ∧ H p = some (.dK (mK m)) ∧ okM m ∧ sortedS (m.map (·.1)) = true ∧ m.length ≤ 4
theorem ChgP.at' {H : Hp} {a p : Addr} {m : WM} (h : ChgP K H a m p) : ChgAt K H a m := let ⟨dx, h1, h2, h3, h4, h5⟩ := h; ⟨⟨dx, p, h1, h2, h3, h4⟩, h5⟩
theorem ChgP.of {H : Hp} {a : Addr} {m : WM} (h : ChgAt K H a m) : ∃ p, ChgP K H a m p := let ⟨⟨dx, p, h1, h2, h3, h4⟩, h5⟩ := h; ⟨p, dx, h1, h2, h3, h4, h5⟩
theorem ChgP.keep {H H' : Hp} {a p : Addr} {m : WM} (h : ChgP K H a m p) (e : Same H H') : ChgP K H' a m p := let ⟨dx, h1, h2, h3⟩ := h; ⟨dx, e _ _ h1, e _ _ h2, h3⟩
theorem ChgP.upd {H : Hp} {a p b : Addr} {m : WM} {o : HO} (h : ChgP K H a m p) (ab : a ≠ b) (pb : p ≠ b) : ChgP K (upd H b o) a m p := let ⟨dx, h1, h2, h3⟩ := h; ⟨dx, by rw [upd_ne ab]; exact h1, by rw [upd_ne pb]; exact h2, h3⟩
/-- Change(..) of a dict of any keys -/
def spChgX (K : PySem.W.Frag) (w : World) : Sp := fun vs H Q E => match vs with
  | [x, v] => ∃ (a dx b : Addr) (es : List GE) (H0 : Hp), x = .ref a ∧ v = .ref b ∧ Cv w H H0 ∧ H0 a = some (.ins (He.ga K "Change") dx []) ∧ H0 b = some (gO w b es) ∧ GOk K H0 es ∧ es.length ≤ 1000 ∧
    (goodG es 0 = true → ∀ H' m2 p, Off a H0 H' → ChgP K H' a m2 p → H0 p = none → m2.Perm (mOf es) → Q .non H') ∧
    (goodG es 0 = false → ∀ H', Off a H0 H' → E (.ref (He.ga K "BadValues")) none H')
  | _ => False
theorem cx_Change_init (T : Top w K mg) : Mak P w K mg base (L2.CX P w) 4 "Change" (He.ga K "Change") (spChgX K w) := by
  refine mak_X (f_Change_init T) (mk_Change T) (g_Change T) sc_Change_init (fun _ _ _ _ _ _ us hl => match us, hl with | [_, _], _ => rfl) (fun vs H Q E h => match vs, h with | [_, _], _ => rfl) (fun cdv A outer s H vs Q E hr h => ?_)
  match vs, h with
  | [x, v], h =>
  obtain ⟨a, dx, b, es, H0, rfl, rfl, cv, ha, hb, hg, few, q, qE⟩ := h
  refine ⟨_, (pss_one (ps_cv (ps_fld (pv 0) (pcX (takes_of rfl rfl rfl rfl) (cx_checked T) hr (pa_cons (pv 1) (pa_cons pe_int pa_nil))) rfl))), ?_⟩
  refine ⟨H0, cv, _, rfl, b, es, 0, rfl, rfl, hb, hg, few, fun gd p H1 m2 e1 np hp st => ?_, fun gd H1 e1 => qE gd H1 fun c u _ hu => e1 _ _ hu⟩
  have ha1 := e1 _ _ ha
  have pa : p ≠ a := fun z => by rw [z, ha] at np; cases np
  refine ⟨_, rfl, a, _, dx, [], rfl, ha1, k_Change T, na_Change_given T, by decide, ?_⟩
  have g2 := gd
  unfold goodG at g2
  rw [Bool.and_eq_true, Bool.and_eq_true] at g2
  obtain ⟨e0, hok⟩ := mOf_ok hg g2.2
  have lm := mOf_len e0
  refine ⟨_, .refl, q gd _ m2 p (fun c u hc hu => by rw [upd_ne hc]; exact e1 _ _ hu) ⟨dx, upd_same, by rw [upd_ne pa]; exact hp, okM_perm hok st.1, st.2, ?_⟩ np st.1⟩
  rw [st.1.length_eq, lm]
  exact of_decide_eq_true g2.1.2
end
end RM

set_option Elab.async false
set_option linter.all false
set_option maxRecDepth 100000
set_option maxHeartbeats 4000000
/-! methods that let exceptions out, in a body that lets them out too; what is never reached -/
namespace RM
open PySem PySem.Spec PyProof.Rows L2
theorem pe_never {X : Cx} {e : Expr} : PE X e (fun _ _ _ => False) := ⟨fun _ _ _ _ _ _ h => h.elim⟩
section
variable {P : Program} {w : World} {K : PySem.W.Frag} {mg : Str → Option Value} {base : Heap} {k : Nat} {m : Str} {C : Addr} {sp : Sp}
theorem met_X {qual : Str} {st : Stmt} {f : Addr} {N ps : List Str} (F : ∃ fd, FunD K m qual (defArgs st) (defBody st) (defScope st) [] [] f fd) (c : Cls K C) (me : Meth K C m f) (S : FnScope N ps (defScope st))
    (hb : ∀ (kV doc pm : Value) (an : Option Addr) (cdv ct : Value) (us : List Value), us.length = ps.length → bindArgs (PySem.W.fnOf m qual (defArgs st) (defBody st) (defScope st) .none kV doc pm an cdv ct) ⟨us, []⟩ = pure (ps.zip us))
    (len : ∀ vs H Q E, sp vs H Q E → vs.length = ps.length) (h : BodyX P w K mg base N qual st f k sp) : Met P w K mg base (L2.CX P w) (k + 1) C m sp :=
  let ⟨fd, F⟩ := F
  ⟨f, fd, ps, c, me, F.ok S len h, F.bindsN hb⟩
end
section
variable {X : Cx} {k j : Nat} {C : Addr} {m : Str} {sp : Sp} {E : XK} {pos apos : Pos} {e o : Expr} {es : List Expr} {ta : TE} {t : TA}
theorem pmtX {pl : Sem Bool} (tk : Takes X (fun cls d _ H => E cls d H)) (c : Met X.prog X.w X.K X.mg X.base (L2.CX X.prog X.w) k C m sp) (hr : Room j X.A) (he : PE X o ta) (ha : PA X (e :: es) t) (hk : k ≤ j := by omega)
    (hst : starEach (e :: es) X.env = (false, eval e X.env) :: starEach es X.env := by rfl) (hpl : (backTo pos (starEach es X.env)).any (·.1) = false := by rfl)
    (ht : eval (.Call (.Attribute o m apos) (e :: es) [] pos) X.env = (do
      let ov ← eval o X.env
      standAt apos.atName
      let (f, first) ← holding [ov] (getMethod ov m pl)
      callWith pos f first (backTo pos (starEach (e :: es) X.env)) (backToKw pos (keywordEach [] X.env))) := by rfl) :
    PE X (.Call (.Attribute o m apos) (e :: es) [] pos) (tMeth C m sp [] E ta t) := by
  obtain ⟨f, fd, ps, hc, hm, F, b⟩ := c
  exact pe_meth (pl := pl) he hc hm F (hr.mono hk) b .nil (passes_call tk (fun _ _ _ _ h => h)) ha hst hpl ht
theorem pmtX0 {pl : Sem Bool} (tk : Takes X (fun cls d _ H => E cls d H)) (c : Met X.prog X.w X.K X.mg X.base (L2.CX X.prog X.w) k C m sp) (hr : Room j X.A) (he : PE X o ta) (hk : k ≤ j := by omega)
    (ht : eval (.Call (.Attribute o m apos) [] [] pos) X.env = (do
      let ov ← eval o X.env
      standAt apos.atName
      let (f, first) ← holding [ov] (getMethod ov m pl)
      callWith pos f first (backTo pos (starEach [] X.env)) (backToKw pos (keywordEach [] X.env))) := by rfl) :
    PE X (.Call (.Attribute o m apos) [] [] pos) (tMeth C m sp [] E ta tNil) := by
  obtain ⟨f, fd, ps, hc, hm, F, b⟩ := c
  exact pe_meth0 (pl := pl) he hc hm F (hr.mono hk) b .nil (passes_call tk (fun _ _ _ _ h => h)) ht
end
end RM

set_option Elab.async false
set_option linter.all false
set_option maxRecDepth 100000
set_option maxHeartbeats 4000000
set_option pp.maxSteps 600
set_option pp.deepTerms false
namespace RM
open PySem PySem.Spec PyProof.Rows L2
/-- the surroundings of the law -/
abbrev w1 : WM := [("a", 1)]
theorem w1_ok : okM w1 ∧ sortedS (w1.map (·.1)) = true := ⟨⟨by decide +kernel, by decide +kernel⟩, by decide +kernel⟩
section
variable {P : Program} {w : World} {K : PySem.W.Frag} {mg : Str → Option Value} {base : Heap}
theorem sc_reachable : FnScope ["surroundings", "changes"] ["surroundings", "changes"] (defScope s_reachable) := ⟨rfl, rfl, rfl, by decide +kernel, rfl, by decide +kernel, by decide +kernel⟩
theorem c_reachable (T : Top w K mg) : Cal P w K mg base (L2.CX P w) 9 "reachable" (spStates K) := by
  refine cal_X (f_reachable T) (g_reachable T) sc_reachable (fun _ _ _ _ _ _ us hl => match us, hl with | [_, _], _ => rfl) (fun vs H Q E h => match vs, h with | [_, _], _ => rfl) (fun cdv A outer s H vs Q E hr h => ?_)
  match vs, h with
  | [x, y], h =>
  exact ⟨_, (pss_one (ps_ret (pcX (takes_of rfl rfl rfl rfl) (c_states_from T) hr (pa_cons (pv 0) (pa_cons (pv 1) pa_nil))))), _, rfl, _, rfl, h⟩
/-! ### steps_of an empty body -/
theorem prg_nil {H : Hp} {a : Addr} (h : PrgAt K H a []) : ∃ dx t, H a = some (.ins (He.ga K "Program") dx [("body", .ref t)]) ∧ SqT K H t [] := by
  obtain ⟨dx, v, ha, hv⟩ := h
  cases hv with
  | tup h1 h2 =>
    cases h2
    exact ⟨dx, _, ha, h1⟩
def spSteps (K : PySem.W.Frag) : Sp := fun vs H Q _ => match vs with
  | [b, p, f] => ∃ t, b = .ref t ∧ SqT K H t [] ∧ Q f H
  | _ => False
theorem sc_steps_of : FnScope ["body", "path", "found", "place", "one", "here", "turn", "at", "end"] ["body", "path", "found"] (defScope s_steps_of) := ⟨rfl, rfl, rfl, by decide +kernel, rfl, by decide +kernel, by decide +kernel⟩
theorem c_steps_of (T : Top w K mg) : Cal P w K mg base CX0 1 "steps_of" (spSteps K) := by
  refine cal_0 (f_steps_of T) (g_steps_of T) sc_steps_of (fun _ _ _ _ _ _ us hl => match us, hl with | [_, _, _], _ => rfl) (fun vs H Q E h => match vs, h with | [_, _, _], _ => rfl) (fun cdv A outer s H vs Q E hr h => ?_)
  match vs, h with
  | [b, p, f], h =>
  obtain ⟨t, rfl, ht, q⟩ := h
  refine ⟨_, (pss_cons (ps_for PassesOwn.never rfl (pi_enumA (by rfl) (z_enumerate T) (pa_cons (pv 0) pa_nil)) (pg_tup rfl (pgs_cons (pg_name (i := 3) sc_steps_of.nd rfl (Or.inl rfl)) (pgs_cons (pg_name (i := 4) sc_steps_of.nd rfl (Or.inl rfl)) pgs_nil)))
      (pss_cons ps_never
    (pss_one ps_never)))
    (pss_one (ps_ret (pv 2)))), ?_⟩
  refine ⟨_, rfl, enumA_of (H0 := H) (.inr ht) (Same.refl _) fun J wk => for_it wk (fun i σ H' => H' = H ∧ ∃ v3 v4, σ = [some (.ref t), some p, some f, v3, v4, none, none, none, none]) ⟨rfl, _, _, rfl⟩ (fun i σ H' _ h => by rw [h.1]; exact Same.refl _) ?_ ?_⟩
  · rintro i x σ H1 H2 hi _ _
    exact absurd hi (Nat.not_lt_zero _)
  · rintro σ H1 ⟨rfl, v3, v4, rfl⟩
    exact ⟨_, rfl, q⟩
/-! ### Ground(..) of an empty program and no changes -/
theorem lev_none (ks : List Str) (s : List Int) : ∀ n, lev ks [] s n = [s]
  | 0 => rfl
  | n + 1 => by
    unfold lev
    rw [lev_none ks s n]
    cases n with
    | zero => rfl
    | succ n => rfl
section
variable {H H' : Hp} {a sa pa : Addr} {C dx : Addr} {m : WM}
theorem SurAt.offI (h : SurAt K H sa m) (e : Off a H H') (ha : H a = some (.ins C dx [])) : SurAt K H' sa m := by
  obtain ⟨⟨d1, p1, h1, h2, h3⟩, h4⟩ := h
  exact ⟨⟨d1, p1, e _ _ (fun z => by rw [z, ha] at h1; cases h1) h1, e _ _ (fun z => by rw [z, ha] at h2; cases h2) h2, h3⟩, h4⟩
theorem ts_offI (e : Off a H H') (ha : H a = some (.ins C dx [])) : TS K H H' := fun b xs h => by
  rcases h with (h | ⟨o, h⟩) | h
  · exact .inl (.inl (e _ _ (fun z => by rw [z, ha] at h; cases h) h))
  · exact .inl (.inr ⟨o, e _ _ (fun z => by rw [z, ha] at h; cases h) h⟩)
  · exact .inr h
theorem ts_offA {fs : List (Str × V)} (e : Off a H H') (ha : H a = some (.ins C dx fs)) : TS K H H' := fun b xs h => by
  rcases h with (h | ⟨o, h⟩) | h
  · exact .inl (.inl (e _ _ (fun z => by rw [z, ha] at h; cases h) h))
  · exact .inl (.inr ⟨o, e _ _ (fun z => by rw [z, ha] at h; cases h) h⟩)
  · exact .inr h
theorem PrgAt.offI (h : PrgAt K H pa []) (e : Off a H H') (ha : H a = some (.ins C dx [])) : PrgAt K H' pa [] := by
  obtain ⟨d1, t, h1, h2⟩ := prg_nil h
  exact ⟨d1, _, e _ _ (fun z => by rw [z, ha] at h1; cases h1) h1, .tup (ts_offI e ha _ _ h2) .nil⟩
end
def spGround (K : PySem.W.Frag) : Sp := fun vs H Q _ => match vs with
  | [x, p, s, c] => ∃ a dx pa sa ca, x = .ref a ∧ p = .ref pa ∧ s = .ref sa ∧ c = .ref ca ∧ H a = some (.ins (He.ga K "Ground") dx []) ∧ PrgAt K H pa [] ∧ SurAt K H sa w1 ∧ H ca = some (.lst []) ∧ ∀ H', Off a H H' → Q .non H'
  | _ => False
theorem sc_Ground_init : FnScope ["self", "program", "surroundings", "changes", "state", "place", "at", "key", "change"] ["self", "program", "surroundings", "changes"] (defScope s_Ground_init) := ⟨rfl, rfl, rfl, by decide +kernel, rfl, by decide +kernel, by decide +kernel⟩
theorem c_Ground_init (T : Top w K mg) : Mak P w K mg base CX0 30 "Ground" (He.ga K "Ground") (spGround K) := by
  refine mak_0 (f_Ground_init T) (mk_Ground T) (g_Ground T) sc_Ground_init (fun _ _ _ _ _ _ us hl => match us, hl with | [_, _, _, _], _ => rfl) (fun vs H Q E h => match vs, h with | [_, _, _, _], _ => rfl) (fun cdv A outer s H vs Q E hr h => ?_)
  match vs, h with
  | [x, p, s, c], h =>
  obtain ⟨a, dx, pa, sa, ca, rfl, rfl, rfl, rfl, ha, hp, hs, hc, q⟩ := h
  have aca : ca ≠ a := fun z => by rw [z, ha] at hc; cases hc
  refine ⟨_, (pss_cons (ps_expr (pc (c_check_keys T).calm hr (pa_cons (pv 1) (pa_cons (pv 2) (pa_cons (pv 3) pa_nil)))))
    (pss_cons (ps_fld (pv 0) (pv 1) rfl)
    (pss_cons (ps_fld (pv 0) (pv 2) rfl)
    (pss_cons (ps_fld (pv 0) (pv 3) rfl)
    (pss_cons (ps_fld (pv 0) (pc (c_states_from T).calm hr (pa_cons (pv 2) (pa_cons (pv 3) pa_nil))) rfl)
    (pss_cons (ps_fld (pv 0) (pe_dc (own := [("at", 6), ("key", 7)]) rfl sc_Ground_init.nd (pi_enumA (by rfl) (z_enumerate T) (pa_cons (pmt0 (c_Surroundings_keys_of T) hr (pv 2)) pa_nil)) (blkOk_by (own := [("at", 6), ("key", 7)]) (N := ["self", "program", "surroundings", "changes", "state", "place", "at", "key", "change"]) (sc := defScope s_Ground_init) (by decide +kernel)) (fun _ _ _ _ _ => (pg_tup' (n := 2) (K := K) rfl rfl (pgs_cons (pg_name (i := 6) sc_Ground_init.nd rfl (Or.inl rfl) (Or.inr rfl)) (pgs_cons (pg_name (i := 7) sc_Ground_init.nd rfl (Or.inl rfl) (Or.inr rfl)) pgs_nil)) rfl rfl)) (fun _ _ _ _ _ => pts_nil) (fun _ _ _ _ _ => (pv 7)) (fun _ _ _ _ _ => (pv 6))) rfl)
    (pss_cons (ps_fld (pv 0) pe_dnewK rfl)
    (pss_cons (ps_cv (ps_for PassesOwn.never rfl (pi_list (pe_fld (pv 0) rfl)) (pg_name (i := 4) sc_Ground_init.nd rfl (Or.inl rfl))
      (pss_cons (ps_set (i := 5) sc_Ground_init.nd rfl (Or.inr rfl) (pc (c_with_state T) hr (pa_cons (pv 2) (pa_cons (pv 4) pa_nil))))
    (pss_one (ps_gput (room8 hr) (pe_fld (pv 0) rfl) (pv 4) (pe_lc (own := [("change", 8)]) rfl sc_Ground_init.nd (pi_seqA (pv 3)) (blkOk_by (own := [("change", 8)]) (N := ["self", "program", "surroundings", "changes", "state", "place", "at", "key", "change"]) (sc := defScope s_Ground_init) (by decide +kernel)) (fun _ _ _ _ _ => (pg_name (i := 8) sc_Ground_init.nd rfl (Or.inl rfl) (Or.inr rfl))) (fun _ _ _ _ _ => pts_nil) (fun _ _ _ _ _ => pe_never)) rfl)))))
    (pss_cons (ps_fld (pv 0) (pc (c_steps_of T) hr (pa_cons (pe_fld (pv 1) rfl) (pa_cons (pe_tup pa_nil) (pa_cons (pe_lst pa_nil) pa_nil)))) rfl)
    (pss_one (ps_fld (pv 0) pe_dnewK rfl))))))))))), ?_⟩
  refine ⟨_, rfl, _, rfl, _, rfl, pa, [], sa, w1, ca, [], [], rfl, rfl, rfl, hp, by decide, by decide, hs, .inl (SqL.of hc), .nil, fun ks hk => ?_⟩
  have hk0 : ks = [] := List.eq_nil_iff_forall_not_mem.mpr fun k hm => by
    have : k ∈ ([] : List Str) := (hk.2.2 k).mp hm
    cases this
  subst hk0
  refine ⟨fun _ H1 e1 => ?_, fun k z => by cases z⟩
  have ha1 := e1 _ _ ha
  refine ⟨_, rfl, _, rfl, a, _, dx, [], rfl, ha1, k_Ground T, na_Ground_subject T, (by show 0 < 1000; decide), ?_⟩
  refine ⟨_, rfl, _, rfl, a, _, dx, _, rfl, upd_same, k_Ground T, na_Ground_home T, (by show 1 < 1000; decide), ?_⟩
  refine ⟨_, rfl, _, rfl, a, _, dx, _, rfl, upd_same, k_Ground T, na_Ground_choices T, (by show 2 < 1000; decide), ?_⟩
  obtain ⟨H2, eH2⟩ : ∃ H2, H2 = upd (upd (upd H1 a (.ins (He.ga K "Ground") dx (putF "subject" (.ref pa) []))) a (.ins (He.ga K "Ground") dx (putF "home" (.ref sa) (putF "subject" (.ref pa) [])))) a (.ins (He.ga K "Ground") dx (putF "choices" (.ref ca) (putF "home" (.ref sa) (putF "subject" (.ref pa) [])))) := ⟨_, rfl⟩
  have o1 : Off a H H1 := fun b u _ hu => e1 _ _ hu
  have o2 : Off a H H2 := by rw [eH2]; exact o1.trans (off_upd.trans (off_upd.trans off_upd))
  have ha2 : H2 a = some (.ins (He.ga K "Ground") dx [("subject", .ref pa), ("home", .ref sa), ("choices", .ref ca)]) := by rw [eH2]; exact upd_same
  have s2 := hs.offI o2 ha
  have p2 := hp.offI o2 ha
  have c2 := o2 _ _ aca hc
  have ev : levM w1 [] = fun n => [[1]] := funext fun n => lev_none _ _ n
  rw [← eH2]
  refine ⟨_, rfl, _, rfl, sa, ca, w1, [], [], rfl, rfl, s2, .inl (SqL.of c2), (by rw [c2]; exact fun z => nomatch z), .nil, (fun q hq => by rw [List.mem_singleton.mp hq]; decide), (fun g hg => by simp at hg), (fun k z => by cases z), fun _ => ⟨fun n hn => absurd hn (by rw [ev]; show ¬ 16 < 1; decide), fun n _ _ st H3 ys ss e3 nst hst dst pst _ => ?_⟩⟩
  have ha3 := e3 _ _ ha2
  have o3 := o2.trans (off_sm e3)
  refine ⟨_, rfl, a, _, dx, _, rfl, ha3, k_Ground T, na_Ground_states T, (by show 3 < 1000; decide), ?_⟩
  obtain ⟨H4, eH4⟩ : ∃ H4, H4 = upd H3 a (.ins (He.ga K "Ground") dx (putF "states" (.ref st) [("subject", .ref pa), ("home", .ref sa), ("choices", .ref ca)])) := ⟨_, rfl⟩
  have ha4 : H4 a = some (.ins (He.ga K "Ground") dx [("subject", .ref pa), ("home", .ref sa), ("choices", .ref ca), ("states", .ref st)]) := by rw [eH4]; exact upd_same
  have o4 : Off a H H4 := by rw [eH4]; exact o3.trans off_upd
  have ast : st ≠ a := fun z => by rw [z, ha2] at nst; cases nst
  have hst4 : H4 st = some (.lst ys) := by rw [eH4, upd_ne ast]; exact hst
  have ts34 : TS K H3 H4 := by rw [eH4]; exact ts_upd _ ha3 trivial
  rw [← eH4]
  have s4 := hs.offI o4 ha
  obtain ⟨⟨dxs, ps, hsa4, hps4, _⟩, _⟩ := id s4
  refine ⟨_, rfl, sa, dxs, _, rfl, hsa4, rfl, sa, w1, rfl, s4, fun kt H5 e5 nkt hkt => ?_⟩
  refine enumA_of (H0 := H5) (.inr (SqT.of hkt)) (Same.refl _) fun J wk => ?_
  intro D nD
  refine dc_walk wk (fun i H' => Same H5 H' ∧ ∃ kvs, H' D = some (.dK kvs) ∧ kvs.length ≤ i) ⟨smNew1 nD _, [], upd_same, Nat.le_refl _⟩ (fun i H _ h => h.1) ?_ ?_
  · rintro i x H6 H7 hi ⟨e6, kvs, hD6, lk⟩ ⟨T, u, v, rfl, hT, rfl, hu, hv⟩
    cases hu
    have i1 : i = 0 := by have : i < 1 := hi; omega
    subst i1
    cases hv
    have e7 := smNew e6 hT (.tup [V.int (0 : Nat), V.str "a"])
    have hD7 : (upd H6 T (.tup [V.int (0 : Nat), V.str "a"])) D = some (.dK kvs) := by rw [upd_ne (ne_of_none hD6 hT)]; exact hD6
    refine ⟨T, _, rfl, SqT.of upd_same, rfl, _, _, rfl, _, _, rfl, rfl, rfl, yesI ?_⟩
    refine ⟨_, rfl, _, rfl, kvs, .inr "a", rfl, hD7, small1000 (by omega), smOut e7 nD _, _, upd_same, ?_⟩
    have := length_putK kvs (.inr "a") (V.int (0 : Nat))
    omega
  · rintro H6 ⟨e6, kvs, hD6, lk⟩
    have aD : D ≠ a := fun z => by rw [z, e5 _ _ ha4] at nD; cases nD
    have ha6 := e6 _ _ (e5 _ _ ha4)
    refine ⟨_, rfl, a, _, dx, _, rfl, ha6, k_Ground T, na_Ground_places T, (by show 4 < 1000; decide), ?_⟩
    obtain ⟨H7, eH7⟩ : ∃ H7, H7 = upd H6 a (.ins (He.ga K "Ground") dx (putF "places" (.ref D) [("subject", .ref pa), ("home", .ref sa), ("choices", .ref ca), ("states", .ref st)])) := ⟨_, rfl⟩
    have ha7 : H7 a = some (.ins (He.ga K "Ground") dx [("subject", .ref pa), ("home", .ref sa), ("choices", .ref ca), ("states", .ref st), ("places", .ref D)]) := by rw [eH7]; exact upd_same
    have o47 : Off a H4 H7 := by rw [eH7]; exact (off_sm (e5.trans e6)).trans off_upd
    rw [← eH7]
    refine fun nd hnd => ?_
    have nda : nd ≠ a := fun z => by rw [z, ha7] at hnd; cases hnd
    refine ⟨_, rfl, a, He.ga K "Ground", dx, _, rfl, by rw [upd_ne (Ne.symm nda)]; exact ha7, k_Ground T, na_Ground_next_states T, (by show 5 < 1000; decide), ?_⟩
    obtain ⟨H8, eH8⟩ : ∃ H8, H8 = upd (upd H7 nd (.dK [])) a (.ins (He.ga K "Ground") dx (putF "next_states" (.ref nd) [("subject", .ref pa), ("home", .ref sa), ("choices", .ref ca), ("states", .ref st), ("places", .ref D)])) := ⟨_, rfl⟩
    rw [← eH8]
    have hnd8 : H8 nd = some (.dK []) := by rw [eH8, upd_ne nda]; exact upd_same
    refine ⟨upd H8 nd (gO w nd (ofK [])), .toG hnd8 (Nat.zero_le _), ?_⟩
    obtain ⟨H9, eH9⟩ : ∃ H9, H9 = upd H8 nd (gO w nd (ofK [])) := ⟨_, rfl⟩
    rw [← eH9]
    have o79 : Off a H7 H9 := fun b u hb hu => by
      have n1 := ne_of_none hu hnd
      rw [eH9, upd_ne n1, eH8, upd_ne hb, upd_ne n1]
      exact hu
    have ha9 : H9 a = some (.ins (He.ga K "Ground") dx [("subject", .ref pa), ("home", .ref sa), ("choices", .ref ca), ("states", .ref st), ("places", .ref D), ("next_states", .ref nd)]) := by rw [eH9, upd_ne (Ne.symm nda), eH8]; exact upd_same
    have hnd9 : H9 nd = some (gO w nd []) := by rw [eH9]; exact upd_same
    have o9 : Off a H H9 := (o4.trans o47).trans o79
    have hst9 : H9 st = some (.lst ys) := (o47.trans o79) _ _ ast hst4
    -- the one state
    have ess : ss = [[1]] := by
      rw [ev] at pst
      exact List.perm_singleton.mp pst
    subst ess
    obtain ⟨vt, ry, eys, dv, dr⟩ := DpAll.cons_inv dst
    cases dr
    subst eys
    have hvt : ∃ tt, vt = .ref tt ∧ SqT K H3 tt [.int 1] := by
      cases dv with
      | tup h1 h2 =>
        cases h2 with
        | cons h3 h4 =>
          cases h4
          cases h3
          exact ⟨_, rfl, h1⟩
    obtain ⟨tt, rfl, htt3⟩ := hvt
    have ts49 : TS K H4 H9 := (ts_offA (o47.trans o79) ha4)
    have htt9 := ts49 _ _ (ts34 _ _ htt3)
    refine ⟨_, rfl, a, _, dx, _, _, rfl, ha9, k_Ground T, na_Ground_states T, rfl, st, rfl, ⟨_, SqL.of hst9⟩, ?_⟩
    have ndst : nd ≠ st := fun z => by
      have := o47 _ _ ast hst4
      rw [← z, hnd] at this
      cases this
    refine for_it (walk_list (xs := [V.ref tt])) (fun i σ H' => Off a H H' ∧ H' a = some (.ins (He.ga K "Ground") dx [("subject", .ref pa), ("home", .ref sa), ("choices", .ref ca), ("states", .ref st), ("places", .ref D), ("next_states", .ref nd)]) ∧ H' st = some (.lst [.ref tt]) ∧ SqT K H' tt [.int 1] ∧ (∃ es, H' nd = some (gO w nd es) ∧ OkG K H' es ∧ es.length ≤ i) ∧
      ∃ v4 v5, σ = [some (.ref a), some (.ref pa), some (.ref sa), some (.ref ca), v4, v5, none, none, none]) ⟨o9, ha9, hst9, htt9, ⟨[], hnd9, ⟨fun p hp => by simp at hp, List.nodup_nil⟩, Nat.le_refl _⟩, _, _, rfl⟩ (fun i σ H' _ h => SqL.of h.2.2.1) ?_ ?_
    · rintro i x σ H10 H11 hi ⟨o10, ha10, hst10, htt10, ⟨es, hnd10, ok10, l10⟩, v4, v5, rfl⟩ ⟨rfl, hx⟩
      have i0 : i = 0 := by have : i < 1 := hi; omega
      subst i0
      cases hx
      refine ⟨_, rfl, _, rfl, sa, tt, w1, [1], rfl, rfl, hs.offI o10 ha, htt10, rfl, (fun u hu => by rw [List.mem_singleton.mp hu]; rfl), fun pl H12 e12 npl spl => ?_⟩
      have c12 := (o10.trans (off_sm e12)) _ _ aca hc
      refine ⟨_, rfl, seqA_of (H0 := H12) (.inl (SqL.of c12)) (Same.refl _) fun J wk => fun L nL => ?_⟩
      refine lc_opt (te := fun _ _ _ => False) wk (fun (_ : Unit) y _ => True) (fun i => none) nL (small1000 (Nat.zero_le _)) (fun H' e => e) (fun _ _ _ _ h _ => h) (fun _ _ _ _ _ h _ => h) ?_ ?_
      · rintro i x H13 H14 N hi _ _ _ _
        exact absurd hi (Nat.not_lt_zero _)
      intro H13 ys13 e13 hL13 hp13
      have ha13 := e13 _ _ (e12 _ _ ha10)
      have hnd13 := e13 _ _ (e12 _ _ hnd10)
      have o13 := o10.trans (off_sm (e12.trans e13))
      have ts13 : TS K H11 H13 := ts_sm (e12.trans e13)
      have ok13 := ok10.keep ts13
      have htt13 := ts13 _ _ htt10
      refine ⟨_, rfl, a, He.ga K "Ground", dx, _, _, rfl, ha13, k_Ground T, na_Ground_next_states T, rfl, _, rfl, nd, es, .tup [.num 1], rfl, hnd13, ok13, .oneI htt13, by omega, ?_⟩
      have ts14 : TS K H13 (upd H13 nd (gO w nd (putG es (.ref tt) (.tup [.num 1]) (.ref L)))) := ts_upd _ hnd13 trivial
      refine ⟨fun b u hb hu => ?_, by rw [upd_ne (Ne.symm nda)]; exact ha13, by rw [upd_ne (Ne.symm ndst)]; exact e13 _ _ (e12 _ _ hst10), ts14 _ _ htt13, ⟨_, upd_same, (ok13.put (.oneI htt13)).keep ts14, ?_⟩, _, _, rfl⟩
      · have hH4 := o4 _ _ hb hu
        have hH7 := o47 _ _ hb hH4
        rw [upd_ne (fun z => by rw [z, hnd] at hH7; cases hH7)]
        exact o13 _ _ hb hu
      · have := putG_len es (.ref tt) (.tup [.num 1]) (.ref L)
        omega
    · rintro σ H10 ⟨o10, ha10, hst10, htt10, ⟨es, hnd10, ok10, l10⟩, v4, v5, rfl⟩
      refine ⟨_, .refl, ?_⟩
      obtain ⟨dp, tb, hpa, htb⟩ := prg_nil (hp.offI o10 ha)
      refine ⟨_, rfl, pa, _, dp, _, _, rfl, hpa, k_Program T, na_Program_body T, rfl, (by show 0 ≤ sizeLine; decide), fun tp htp => ?_⟩
      refine ⟨(by show 0 ≤ sizeLine; decide), fun lf hlf => ?_⟩
      have e11 : Same H10 (upd (upd H10 tp (.tup [])) lf (.lst [])) := smNew (smNew1 htp _) hlf _
      refine ⟨tb, rfl, smT e11 htb, ?_⟩
      have ha11 := e11 _ _ ha10
      refine ⟨_, rfl, a, He.ga K "Ground", dx, _, rfl, ha11, k_Ground T, na_Ground_steps T, (by show 6 < 1000; decide), ?_⟩
      refine fun gd hgd => ?_
      have gda : gd ≠ a := fun z => by rw [z, upd_same] at hgd; cases hgd
      refine ⟨_, rfl, a, He.ga K "Ground", dx, _, rfl, by rw [upd_ne (Ne.symm gda)]; exact upd_same, k_Ground T, na_Ground_given T, (by show 7 < 1000; decide), ?_⟩
      refine q _ (fun b u hb hu => ?_)
      have h11 := e11 _ _ (o10 _ _ hb hu)
      rw [upd_ne hb, upd_ne (fun z => ?_), upd_ne hb]
      · exact h11
      · rw [z] at h11
        rw [upd_ne gda] at hgd
        rw [h11] at hgd
        cases hgd
/-! ### torn_by: no read is torn in an empty program -/
def spTorn (K : PySem.W.Frag) : Sp := fun vs H Q E => match vs with
  | [p, s, c, x, y] => ∃ pa sa ca ta n, p = .ref pa ∧ s = .ref sa ∧ c = .ref ca ∧ x = .ref ta ∧ SqT K H ta [.int n] ∧ PrgAt K H pa [] ∧ SurAt K H sa w1 ∧ H ca = some (.lst []) ∧ ∀ H', Same H H' → E (.ref (He.ga K "NoRead")) none H'
  | _ => False
theorem sc_torn_by : FnScope ["program", "surroundings", "changes", "one", "two", "ground", "paths", "pair", "found", "path", "key"] ["program", "surroundings", "changes", "one", "two"] (defScope s_torn_by) := ⟨rfl, rfl, rfl, by decide +kernel, rfl, by decide +kernel, by decide +kernel⟩
theorem c_torn_by (T : Top w K mg) : Cal P w K mg base (L2.CX P w) 40 "torn_by" (spTorn K) := by
  refine cal_X (f_torn_by T) (g_torn_by T) sc_torn_by (fun _ _ _ _ _ _ us hl => match us, hl with | [_, _, _, _, _], _ => rfl) (fun vs H Q E h => match vs, h with | [_, _, _, _, _], _ => rfl) (fun cdv A outer s H vs Q E hr h => ?_)
  match vs, h with
  | [p, s, c, x, y], h =>
  obtain ⟨pa, sa, ca, ta, n, rfl, rfl, rfl, rfl, ht, hp, hs, hc, q⟩ := h
  refine ⟨_, (pss_cons (ps_set (i := 5) sc_torn_by.nd rfl (Or.inl rfl) (pmk (c_Ground_init T) hr (pa_cons (pv 0) (pa_cons (pv 1) (pa_cons (pv 2) pa_nil)))))
    (pss_cons (ps_setLc (i := 6) (own := [("path", 9), ("key", 10)]) rfl sc_torn_by.nd rfl rfl (sw_true rfl rfl rfl (by decide +kernel)) (pi_list (pmt0 (c_Program_reads T) hr (pv 0))) (blkOk_by (own := [("path", 9), ("key", 10)]) (N := ["program", "surroundings", "changes", "one", "two", "ground", "paths", "pair", "found", "path", "key"]) (sc := defScope s_torn_by) (by decide +kernel)) (fun _ _ _ _ _ => (pg_tup' (n := 2) (K := K) rfl rfl (pgs_cons (pg_name (i := 9) sc_torn_by.nd rfl (Or.inl rfl) (Or.inr rfl)) (pgs_cons (pg_name (i := 10) sc_torn_by.nd rfl (Or.inl rfl) (Or.inr rfl)) pgs_nil)) rfl rfl)) (fun _ _ _ _ _ => pts_nil) (fun _ _ _ _ _ => (pv 9)))
    (pss_cons (ps_if (PW.pt (pw_or (pt_cmpR (op_notInD (room65 hr)) (pv 3) (pv 6) rfl) (pw_or1 (pt_cmpR (op_notInD (room65 hr)) (pv 4) (pv 6) rfl))))
      (pss_one (ps_raise rfl (takes_of rfl rfl rfl rfl) (pmk_exc0 (xc_NoRead T) (g_NoRead T))))
      pss_nil)
    (pss_cons ps_never
    (pss_cons ps_never
    (pss_cons ps_never
    (pss_cons ps_never
    (pss_one ps_never)))))))), ?_⟩
  refine ⟨_, rfl, _, rfl, _, rfl, fun g dg hg hdg hne => ?_⟩
  have mI := mk_in (C := He.ga K "Ground") hg hdg hne
  refine ⟨g, dg, pa, sa, ca, rfl, rfl, rfl, rfl, upd_same, hp.keep mI, hs.keep mI, mI _ _ hc, fun H1 off => ⟨rfl, ?_⟩⟩
  have s1 := mk_sm hg hdg off
  obtain ⟨dp, tb, hpa, _⟩ := prg_nil (hp.keep s1)
  refine ⟨_, rfl, pa, dp, _, rfl, hpa, rfl, pa, [], rfl, hp.keep s1, by decide, by decide, fun rl H2 ys e2 nrl hrl dys => ?_⟩
  cases dys
  refine ⟨rl, rfl, ⟨_, SqL.of hrl⟩, fun L nL => ?_⟩
  refine lc_opt (walk_list (xs := [])) (fun (_ : Unit) y _ => True) (fun i => none) nL (small1000 (Nat.zero_le _)) (fun H' e => SqL.of (e _ _ hrl)) (fun _ _ _ _ h _ => h) (fun _ _ _ _ _ h _ => h) ?_ ?_
  · rintro i x H13 H14 N hi _ _ _ _
    exact absurd hi (Nat.not_lt_zero _)
  intro H3 ys3 e3 hL3 hp3
  have s3 := s1.trans (e2.trans e3)
  have ht3 := smT s3 ht
  cases hp3
  refine ⟨_, rfl, _, rfl, .tuple [.int n], [], .tup ht3 (.cons (.int n) .nil), .lst (SqL.of hL3) .nil, rfl, rfl, _, rfl, ?_⟩
  exact iteT (q H3 s3)
end
end RM

set_option Elab.async false
set_option linter.all false
set_option maxRecDepth 100000
set_option maxHeartbeats 4000000
set_option pp.maxSteps 600
set_option pp.deepTerms false
namespace RM
open PySem PySem.Spec PyProof.Rows L2
section
variable {P : Program} {w : World} {K : PySem.W.Frag} {mg : Str → Option Value} {base : Heap}
theorem sc_NoChange_init : FnScope ["self", "number"] ["self", "number"] (defScope s_NoChange_init) := ⟨rfl, rfl, rfl, by decide +kernel, rfl, by decide +kernel, by decide +kernel⟩
theorem c_NoChange_init (T : Top w K mg) : Exo P w K mg base 1 "NoChange" (He.ga K "NoChange") (spExo (He.ga K "NoChange") "number") := by
  refine exo_0 (f_NoChange_init T) (oexB_ok (oex_NoChange T)) (me_NoChange_init T) (g_NoChange T) sc_NoChange_init (fun _ _ _ _ _ _ us hl => match us, hl with | [_, _], _ => rfl) (fun vs H Q E h => match vs, h with | [_, _], _ => rfl) (fun cdv A outer s H vs Q E hr h => ?_)
  match vs, h with
  | [x, v], h =>
  obtain ⟨a, rfl, ha, q⟩ := h
  refine ⟨_, (pss_one (ps_ost (pv 0) (pv 1))), ?_⟩
  exact ⟨_, rfl, _, rfl, a, _, rfl, oexB_ok (oex_NoChange T), na_NoChange_number T, .inl ⟨ha, fun dx h1 h2 => q dx h1 h2⟩⟩
/-! ### Desk -/
def DeskAt (K : PySem.W.Frag) (H : Hp) (a : Addr) : Prop := ∃ dx t l k0 k1 t0, H a = some (.ins (He.ga K "Desk") dx [("kept", .ref t), ("past", .ref l), ("known", .non), ("runs", .int 0)]) ∧ SqT K H t [k0, k1, .ref t0] ∧ SqT K H t0 [] ∧ H l = some (.lst [])
theorem DeskAt.keep {H H' : Hp} {a : Addr} (h : DeskAt K H a) (e : Same H H') : DeskAt K H' a := let ⟨dx, t, l, k0, k1, t0, h1, h2, h3, h4⟩ := h; ⟨dx, t, l, k0, k1, t0, e _ _ h1, smT e h2, smT e h3, e _ _ h4⟩
def spDesk (K : PySem.W.Frag) : Sp := fun vs H Q _ => match vs with
  | [x, y] => ∃ a dx b, x = .ref a ∧ y = .ref b ∧ H a = some (.ins (He.ga K "Desk") dx []) ∧ SurAt K H b w1 ∧ ∀ H', Off a H H' → DeskAt K H' a → Q .non H'
  | _ => False
theorem sc_Desk_init : FnScope ["self", "surroundings"] ["self", "surroundings"] (defScope s_Desk_init) := ⟨rfl, rfl, rfl, by decide +kernel, rfl, by decide +kernel, by decide +kernel⟩
theorem c_Desk_init (T : Top w K mg) : Mak P w K mg base CX0 20 "Desk" (He.ga K "Desk") (spDesk K) := by
  refine mak_0 (f_Desk_init T) (mk_Desk T) (g_Desk T) sc_Desk_init (fun _ _ _ _ _ _ us hl => match us, hl with | [_, _], _ => rfl) (fun vs H Q E h => match vs, h with | [_, _], _ => rfl) (fun cdv A outer s H vs Q E hr h => ?_)
  match vs, h with
  | [x, y], h =>
  obtain ⟨a, dx, b, rfl, rfl, ha, sb, q⟩ := h
  refine ⟨_, (pss_cons (ps_fld (pv 0) (pe_tup (pa_cons (pe_op (op_addG (E := E0) (two_Surroundings_Change T) (o_Surroundings_add T).calm (fun _ _ _ _ _ _ _ h => h.elim) hr) (pv 1) (pmk (c_Change_init T) hr (pa_cons pe_dnewK pa_nil))) (pa_cons (pmk (c_Program_init T) hr (pa_cons (pe_tup pa_nil) pa_nil)) (pa_cons (pe_tup pa_nil) pa_nil)))) rfl)
    (pss_cons (ps_fld (pv 0) (pe_lst pa_nil) rfl)
    (pss_cons (ps_fld (pv 0) pe_non rfl)
    (pss_one (ps_fld (pv 0) pe_int rfl))))), ?_⟩
  refine ⟨_, rfl, fun d hd => ?_⟩
  intro x2 dx2 hx2 hdx2 hne2
  have mI := mk_in (C := He.ga K "Change") hx2 hdx2 hne2
  refine ⟨x2, dx2, d, [], rfl, rfl, upd_same, mI _ _ upd_same, ⟨fun _ h => by simp at h, List.nodup_nil⟩, Nat.zero_le _, Nat.zero_le _, fun H1 m2 off mp pm => ⟨rfl, ?_⟩⟩
  obtain rfl : m2 = [] := List.Perm.eq_nil pm
  have s1 : Same H H1 := (smNew1 hd _).trans (mk_sm hx2 hdx2 off)
  have sb1 := sb.keep s1
  obtain ⟨⟨db, pb, hb, _⟩, _⟩ := id sb1
  obtain ⟨dc, pc, hc, _⟩ := id mp
  refine ⟨b, x2, db, dc, _, _, rfl, rfl, hb, hc, b, x2, w1, [], rfl, rfl, sb1, ⟨mp, Nat.zero_le _⟩, fun _ pl H2 s2 npl spl => ?_, fun k hk => by cases hk⟩
  have s12 := s1.trans s2
  -- Program(())
  refine ⟨(by show 0 ≤ sizeLine; decide), fun tp htp => ?_⟩
  have s3 : Same H2 (upd H2 tp (.tup [])) := smNew1 htp _
  intro y2 dy2 hy2 hdy2 hny2
  have mJ := mk_in (C := He.ga K "Program") hy2 hdy2 hny2
  have htp3 := mJ _ _ (upd_same : (upd H2 tp (.tup [])) tp = _)
  refine ⟨y2, dy2, false, [], rfl, upd_same, .tup (SqT.of htp3) .nil, rfl, by decide, by decide, fun H3 off3 pr3 => ⟨rfl, ?_⟩⟩
  have s13 := s12.trans (s3.trans (mk_sm hy2 hdy2 off3))
  refine ⟨(by show 0 ≤ sizeLine; decide), fun t0 ht0 => ?_⟩
  have s4 : Same H3 (upd H3 t0 (.tup [])) := smNew1 ht0 _
  refine ⟨(by show 3 ≤ sizeLine; decide), fun t ht => ?_⟩
  have s5 : Same (upd H3 t0 (.tup [])) (upd (upd H3 t0 (.tup [])) t (.tup [.ref pl, .ref y2, .ref t0])) := smNew1 ht _
  have s15 := s13.trans (s4.trans s5)
  obtain ⟨H5, e5⟩ : ∃ H5, H5 = upd (upd H3 t0 (.tup [])) t (.tup [.ref pl, .ref y2, .ref t0]) := ⟨_, rfl⟩
  have ht5 : H5 t = some (.tup [.ref pl, .ref y2, .ref t0]) := by rw [e5]; exact upd_same
  have ht05 : H5 t0 = some (.tup []) := by rw [e5]; exact s5 _ _ upd_same
  rw [← e5] at s15 ⊢
  have ha5 := s15 _ _ ha
  refine ⟨_, rfl, a, He.ga K "Desk", dx, _, rfl, ha5, k_Desk T, na_Desk_kept T, (by show 0 < 1000; decide), ?_⟩
  obtain ⟨H6, e6⟩ : ∃ H6, H6 = upd H5 a (.ins (He.ga K "Desk") dx (putF "kept" (.ref t) [])) := ⟨_, rfl⟩
  have ha6 : H6 a = some (.ins (He.ga K "Desk") dx [("kept", .ref t)]) := by rw [e6]; exact upd_same
  have ta : t ≠ a := fun z => by rw [z, ha5] at ht5; cases ht5
  have t0a : t0 ≠ a := fun z => by rw [z, ha5] at ht05; cases ht05
  have ht6 : H6 t = some (.tup [.ref pl, .ref y2, .ref t0]) := by rw [e6, upd_ne ta]; exact ht5
  have ht06 : H6 t0 = some (.tup []) := by rw [e6, upd_ne t0a]; exact ht05
  have o6 : Off a H H6 := by rw [e6]; exact (off_sm s15).trans off_upd
  rw [← e6]
  refine ⟨(by show 0 ≤ sizeLine; decide), fun l hl => ?_⟩
  have la : l ≠ a := fun z => by rw [z, ha6] at hl; cases hl
  refine ⟨_, rfl, a, He.ga K "Desk", dx, _, rfl, by rw [upd_ne (Ne.symm la)]; exact ha6, k_Desk T, na_Desk_past T, (by show 1 < 1000; decide), ?_⟩
  refine ⟨_, rfl, a, He.ga K "Desk", dx, _, rfl, upd_same, k_Desk T, na_Desk_known T, (by show 2 < 1000; decide), ?_⟩
  refine ⟨_, rfl, a, He.ga K "Desk", dx, _, rfl, upd_same, k_Desk T, na_Desk_runs T, (by show 3 < 1000; decide), ?_⟩
  have n6 : ∀ b, H6 b ≠ none → b ≠ l := fun b hb z => hb (by rw [z]; exact hl)
  refine q _ (fun b u hb hu => ?_) ⟨dx, t, l, .ref pl, .ref y2, t0, upd_same, SqT.of ?_, SqT.of ?_, ?_⟩
  · have h6 := o6 _ _ hb hu
    rw [upd_ne hb, upd_ne hb, upd_ne hb, upd_ne (n6 b (by rw [h6]; exact fun z => nomatch z))]
    exact h6
  · rw [upd_ne ta, upd_ne ta, upd_ne ta, upd_ne (n6 t (by rw [ht6]; exact fun z => nomatch z))]
    exact ht6
  · rw [upd_ne t0a, upd_ne t0a, upd_ne t0a, upd_ne (n6 t0 (by rw [ht06]; exact fun z => nomatch z))]
    exact ht06
  · rw [upd_ne la, upd_ne la, upd_ne la]
    exact upd_same
/-! ### undo -/
def spUndo (K : PySem.W.Frag) : Sp := fun vs H Q E => match vs with
  | [x] => ∃ a, x = .ref a ∧ DeskAt K H a ∧ E (.ref (He.ga K "NothingToUndo")) none H
  | _ => False
theorem sc_Desk_undo : FnScope ["self"] ["self"] (defScope s_Desk_undo) := ⟨rfl, rfl, rfl, by decide +kernel, rfl, by decide +kernel, by decide +kernel⟩
theorem c_Desk_undo (T : Top w K mg) : Met P w K mg base (L2.CX P w) 2 (He.ga K "Desk") "undo" (spUndo K) := by
  refine met_X (f_Desk_undo T) (k_Desk T) (me_Desk_undo T) sc_Desk_undo (fun _ _ _ _ _ _ us hl => match us, hl with | [_], _ => rfl) (fun vs H Q E h => match vs, h with | [_], _ => rfl) (fun cdv A outer s H vs Q E hr h => ?_)
  match vs, h with
  | [x], h =>
  obtain ⟨a, rfl, ⟨dx, t, l, k0, k1, t0, h1, h2, h3, h4⟩, q⟩ := h
  refine ⟨_, (pss_cons (ps_if (pt_not (pt_truth (pe_fld (pv 0) rfl) (by intro _; rfl)))
      (pss_one (ps_raise rfl (takes_of rfl rfl rfl rfl) (pmk_exc0 (xc_NothingToUndo T) (g_NothingToUndo T))))
      pss_nil)
    (pss_one ps_never)), ?_⟩
  refine ⟨_, rfl, a, _, dx, _, _, rfl, h1, k_Desk T, na_Desk_past T, rfl, false, .inl ⟨[], SqL.of h4, rfl⟩, ifT rfl q⟩
/-! ### forbid -/
theorem c_Desk_go_to (T : Top w K mg) : Met P w K mg base CX0 1 (He.ga K "Desk") "go_to" (fun _ _ _ _ => False) := by
  obtain ⟨fd, F⟩ := f_Desk_go_to T
  exact ⟨_, fd, ["self", "kept"], k_Desk T, me_Desk_go_to T, ⟨fun _ _ _ _ h => h.elim, fun _ _ _ _ _ _ _ _ _ _ _ _ _ h => h.elim⟩, F.bindsN (fun _ _ _ _ _ _ us hl => match us, hl with | [_, _], _ => rfl)⟩
def spAfter (K : PySem.W.Frag) : Sp := fun vs H Q E => match vs with
  | [x, y, z] => ∃ t k0 k1 t0 e, y = .ref t ∧ z = .ref e ∧ SqT K H t [k0, k1, .ref t0] ∧ SqT K H t0 [] ∧ SqT K H e [.str "forbid", .int 0] ∧ ∀ d H', Same H H' → H' d = some (.xd [("number", .int 0)]) → E (.ref (He.ga K "NoChange")) (some d) H'
  | _ => False
theorem sc_Desk_after : FnScope ["self", "kept", "edit", "place", "program", "changes", "word"] ["self", "kept", "edit"] (defScope s_Desk_after) := ⟨rfl, rfl, rfl, by decide +kernel, rfl, by decide +kernel, by decide +kernel⟩
theorem c_Desk_after (T : Top w K mg) : Met P w K mg base (L2.CX P w) 4 (He.ga K "Desk") "after" (spAfter K) := by
  refine met_X (f_Desk_after T) (k_Desk T) (me_Desk_after T) sc_Desk_after (fun _ _ _ _ _ _ us hl => match us, hl with | [_, _, _], _ => rfl) (fun vs H Q E h => match vs, h with | [_, _, _], _ => rfl) (fun cdv A outer s H vs Q E hr h => ?_)
  match vs, h with
  | [x, y, z], h =>
  obtain ⟨t, k0, k1, t0, e, rfl, rfl, ht, ht0, he, q⟩ := h
  refine ⟨_, (pss_cons (ps_asg (pv 1) (pg_tup rfl (pgs_cons (pg_name (i := 3) sc_Desk_after.nd rfl (Or.inl rfl)) (pgs_cons (pg_name (i := 4) sc_Desk_after.nd rfl (Or.inl rfl)) (pgs_cons (pg_name (i := 5) sc_Desk_after.nd rfl (Or.inl rfl)) pgs_nil)))))
    (pss_cons (ps_set (i := 6) sc_Desk_after.nd rfl (Or.inl rfl) (pe_ix ix_tup (pv 2) pe_int (fun _ _ => rfl)))
    (pss_cons (ps_if (pt_cmpR op_eq (pv 6) pe_str (nomark _))
      (pss_cons ps_never
    (pss_one ps_never))
      pss_nil)
    (pss_cons (ps_if (pt_cmpR op_eq (pv 6) pe_str (nomark _))
      (pss_cons ps_never
    (pss_one ps_never))
      pss_nil)
    (pss_cons (ps_if (pt_cmpR op_eq (pv 6) pe_str (nomark _))
      (pss_cons (ps_if (pt_not (pt_chain op_le op_lt pe_int (pe_ix ix_tup (pv 2) pe_int (fun _ _ => rfl)) (pcb (z_len T) call_len_seq boot_len (pa_cons (pv 5) pa_nil))))
      (pss_one (ps_raiseX (takes_of rfl rfl rfl rfl) (c_NoChange_init T) hr (pa_cons (pe_ix ix_tup (pv 2) pe_int (fun _ _ => rfl)) pa_nil)))
      pss_nil)
    (pss_one ps_never))
      pss_nil)
    (pss_cons ps_never
    (pss_cons ps_never
    (pss_one ps_never)))))))), ?_⟩
  refine ⟨_, rfl, t, _, rfl, ht, rfl, _, _, rfl, _, _, rfl, _, _, rfl, rfl, ?_⟩
  refine ⟨_, rfl, e, _, 0, _, rfl, rfl, he, atI_nat (j := 0) rfl, ?_⟩
  refine ⟨_, rfl, rfl, _, rfl, ifF rfl ?_⟩
  refine ⟨_, rfl, rfl, _, rfl, ifF rfl ?_⟩
  refine ⟨_, rfl, rfl, _, rfl, ifT rfl ?_⟩
  refine ⟨_, rfl, e, _, 1, _, rfl, rfl, he, atI_nat (j := 1) rfl, _, _, rfl, rfl, _, rfl, ifT rfl ?_⟩
  refine ⟨_, rfl, t0, [], rfl, .inr ht0, _, _, rfl, rfl, _, rfl, ifT rfl ?_⟩
  refine ⟨_, rfl, e, _, 1, _, rfl, rfl, he, atI_nat (j := 1) rfl, ?_⟩
  exact raise1 fun d H' _ e1 hd => q d H' e1 hd
def spForbid (K : PySem.W.Frag) : Sp := fun vs H Q E => match vs with
  | [x, y] => ∃ a, x = .ref a ∧ y = .int 0 ∧ DeskAt K H a ∧ ∀ d H', Same H H' → H' d = some (.xd [("number", .int 0)]) → E (.ref (He.ga K "NoChange")) (some d) H'
  | _ => False
theorem sc_Desk_forbid : FnScope ["self", "number"] ["self", "number"] (defScope s_Desk_forbid) := ⟨rfl, rfl, rfl, by decide +kernel, rfl, by decide +kernel, by decide +kernel⟩
theorem c_Desk_forbid (T : Top w K mg) : Met P w K mg base (L2.CX P w) 6 (He.ga K "Desk") "forbid" (spForbid K) := by
  refine met_X (f_Desk_forbid T) (k_Desk T) (me_Desk_forbid T) sc_Desk_forbid (fun _ _ _ _ _ _ us hl => match us, hl with | [_, _], _ => rfl) (fun vs H Q E h => match vs, h with | [_, _], _ => rfl) (fun cdv A outer s H vs Q E hr h => ?_)
  match vs, h with
  | [x, y], h =>
  obtain ⟨a, rfl, rfl, da, q⟩ := h
  obtain ⟨dx, t, l, k0, k1, t0, h1, h2, h3, h4⟩ := id da
  refine ⟨_, (pss_one (ps_expr (pmt (c_Desk_go_to T) hr (pv 0) (pa_cons (pmtX (takes_of rfl rfl rfl rfl) (c_Desk_after T) hr (pv 0) (pa_cons (pe_fld (pv 0) rfl) (pa_cons (pe_tup (pa_cons pe_str (pa_cons (pv 1) pa_nil))) pa_nil))) pa_nil)))), ?_⟩
  refine ⟨_, rfl, a, dx, _, rfl, h1, rfl, ?_⟩
  refine ⟨_, rfl, a, dx, _, rfl, h1, rfl, ?_⟩
  refine ⟨_, rfl, a, _, dx, _, _, rfl, h1, k_Desk T, na_Desk_kept T, rfl, ?_⟩
  refine ⟨_, rfl, (by show 2 ≤ sizeLine; decide), fun e he => ?_⟩
  have s1 := smNew1 he (.tup [.str "forbid", .int 0])
  exact ⟨t, k0, k1, t0, e, rfl, rfl, smT s1 h2, smT s1 h3, SqT.of upd_same, fun d H' e1 hd => q d H' (s1.trans e1) hd⟩
end
end RM

set_option Elab.async false
set_option linter.all false
set_option maxRecDepth 100000
set_option maxHeartbeats 2000000
namespace RM
open PySem PySem.Spec PyProof.Rows L2
section
variable {P : Program} {w : World} {K : PySem.W.Frag} {mg : Str → Option Value} {base : Heap}
/-! ### items of any kind -/
/-- is it a good item by its sign? -/
def goodI (c : Nat) (d : PyData) : Bool :=
  if c = 107 then (match d with | .str z => isWord z | _ => false)
  else if c = 118 then (match d with | .int n => isValue n | _ => false)
  else if c = 116 then (match d with | .int n => decide (0 ≤ n) && decide (n ≤ 3) | _ => false)
  else (match d with | .list _ => true | .tuple _ => true | _ => false)
/-- no dict; a text is short -/
def smallD : PyData → Bool
  | .str z => decide (z.length ≤ 1000)
  | .dict _ => false
  | _ => true
def spItemG (K : PySem.W.Frag) : Sp := fun vs H Q _ => match vs with
  | [x, f] => ∃ c d, f = .str ⟨#[c]⟩ ∧ (c = 107 ∨ c = 118 ∨ c = 116 ∨ c = 98) ∧ Dp K H x d ∧ smallD d = true ∧ ∀ H', Same H H' → Q (.bl (goodI c d)) H'
  | _ => False
theorem wordG {K : PySem.W.Frag} {H : Hp} {x : V} {d : PyData} {Q : VK} {E : XK} (h : Dp K H x d) (hs : smallD d = true) (q : Q (.bl (goodI 107 d)) H) : spIsWordG K [x] H Q E := by
  cases h with
  | str z => exact .inl ⟨z, rfl, Nat.le_of_lt (small1000 (by have := of_decide_eq_true hs; omega)), q⟩
  | non => exact .inr ⟨_, .non, rfl, q⟩
  | int z => exact .inr ⟨_, .int z, rfl, q⟩
  | bl z => exact .inr ⟨_, .bl z, rfl, q⟩
  | lst a b => exact .inr ⟨_, .lst a b, rfl, q⟩
  | tup a b => exact .inr ⟨_, .tup a b, rfl, q⟩
theorem valueG {K : PySem.W.Frag} {H : Hp} {x : V} {d : PyData} {Q : VK} {E : XK} (h : Dp K H x d) (hs : smallD d = true) (q : Q (.bl (goodI 118 d)) H) : spIsValueG K [x] H Q E := by
  cases h with
  | int z => exact .inl ⟨z, rfl, q⟩
  | non => exact .inr ⟨_, .non, rfl, q⟩
  | str z => exact .inr ⟨_, .str z, rfl, q⟩
  | bl z => exact .inr ⟨_, .bl z, rfl, q⟩
  | lst a b => exact .inr ⟨_, .lst a b, rfl, q⟩
  | tup a b => exact .inr ⟨_, .tup a b, rfl, q⟩
/-- isinstance(x, (list, tuple)) of any data -/
theorem ty_any {K : PySem.W.Frag} {H : Hp} {x : V} {d : PyData} (h : Dp K H x d) : ∃ ty, TyX K H x ty ∧ PySem.W.kitAny K ty [.type "list", .type "tuple"] = some (goodI 98 d) := by
  have no : ∀ {a : String}, kitB a "list" = some false → kitB a "tuple" = some false → PySem.W.kitAny K (.type a) [.type "list", .type "tuple"] = some false := fun h1 h2 =>
    kitAny_cons (b := false) (kit_ty h1) (fun _ => kitAny_cons (b := false) (kit_ty h2) (fun _ => rfl) (fun z => by cases z)) (fun z => by cases z)
  cases h with
  | non => exact ⟨_, .base .non, no (by decide +kernel) (by decide +kernel)⟩
  | bl z => exact ⟨_, .base (.bl z), no (by decide +kernel) (by decide +kernel)⟩
  | int z => exact ⟨_, .base (.int z), no (by decide +kernel) (by decide +kernel)⟩
  | str z => exact ⟨_, .base (.str z), no (by decide +kernel) (by decide +kernel)⟩
  | lst h1 _ => exact ⟨_, tyL h1, kitAny_cons (b := true) (kit_ty (by decide +kernel)) (fun z => by cases z) (fun _ => rfl)⟩
  | tup h1 _ => exact ⟨_, tyT h1, kitAny_cons (b := false) (kit_ty (by decide +kernel)) (fun _ => kitAny_cons (b := true) (kit_ty (by decide +kernel)) (fun z => by cases z) (fun _ => rfl)) (fun z => by cases z)⟩
theorem cg_is_item (T : Top w K mg) : Cal P w K mg base CX0 2 "is_item" (spItemG K) := by
  refine cal_0 (f_is_item T) (g_is_item T) sc_is_item (fun _ _ _ _ _ _ us hl => match us, hl with | [_, _], _ => rfl) (fun vs H Q E h => match vs, h with | [_, _], _ => rfl) (fun cdv A outer s H vs Q E hr h => ?_)
  match vs, h with
  | [x, f], h =>
  obtain ⟨c, d, rfl, hc, hx, hs, q⟩ := h
  refine ⟨_, (pss_cons (ps_if (pt_cmpR op_eq (pv 1) pe_str (nomark _))
      (pss_one (ps_ret (pc (cg_is_word T) hr (pa_cons (pv 0) pa_nil))))
      pss_nil)
    (pss_cons (ps_if (pt_cmpR op_eq (pv 1) pe_str (nomark _))
      (pss_one (ps_ret (pc (cg_is_value T) hr (pa_cons (pv 0) pa_nil))))
      pss_nil)
    (pss_cons (ps_if (pt_cmpR op_eq (pv 1) pe_str (nomark _))
      (pss_one (ps_ret (pe_and (pc (cg_is_value T) hr (pa_cons (pv 0) pa_nil)) (pe_one (pe_chain op_le op_le pe_int (pv 0) pe_int)))))
      pss_nil)
    (pss_one (ps_ret (pcb (z_isinstance T) call_isiT boot_isinstance (pa_cons (pv 0) (pa_cons (pe_tup (pa_cons (pty (z_list T) boot_list) (pa_cons (pty (z_tuple T) boot_tuple) pa_nil))) pa_nil)))))))), ?_⟩
  have q0 := q H (Same.refl H)
  rcases hc with rfl | rfl | rfl | rfl
  · refine ⟨_, rfl, rfl, _, rfl, ifT (by decide +kernel) ?_⟩
    exact ⟨_, rfl, wordG hx hs q0⟩
  · refine ⟨_, rfl, rfl, _, rfl, ifF (by decide +kernel) ?_⟩
    refine ⟨_, rfl, rfl, _, rfl, ifT (by decide +kernel) ?_⟩
    exact ⟨_, rfl, valueG hx hs q0⟩
  · refine ⟨_, rfl, rfl, _, rfl, ifF (by decide +kernel) ?_⟩
    refine ⟨_, rfl, rfl, _, rfl, ifF (by decide +kernel) ?_⟩
    refine ⟨_, rfl, rfl, _, rfl, ifT (by decide +kernel) ?_⟩
    refine ⟨_, rfl, valueG hx hs ⟨_, rfl, ?_⟩⟩
    by_cases hi : ∃ n, d = .int n
    case neg =>
      have e : goodI 118 d = false := by
        cases d <;> first | rfl | exact absurd ⟨_, rfl⟩ hi
      have e2 : goodI 116 d = false := by
        cases d <;> first | rfl | exact absurd ⟨_, rfl⟩ hi
      rw [e]
      rw [e2] at q0
      exact ifF rfl q0
    obtain ⟨n, rfl⟩ := hi
    obtain rfl := Dp.int_inv hx
    by_cases hv : isValue n = true
    case neg =>
      have e : goodI 118 (.int n) = false := by
        show isValue n = false
        simpa using hv
      have e2 : goodI 116 (.int n) = false := by
        show (decide (0 ≤ n) && decide (n ≤ 3)) = false
        cases z : (decide (0 ≤ n) && decide (n ≤ 3)) with
        | false => rfl
        | true => exact absurd (isValue_rep z) hv
      rw [e]
      rw [e2] at q0
      exact ifF rfl q0
    refine ifT hv ?_
    refine ⟨_, rfl, _, _, rfl, rfl, _, rfl, ?_⟩
    have e2 : goodI 116 (.int n) = (decide (0 ≤ n) && decide (n ≤ 3)) := rfl
    rw [e2] at q0
    by_cases h0 : 0 ≤ n
    · rw [decide_eq_true h0] at q0 ⊢
      exact ifT rfl ⟨_, _, rfl, rfl, q0⟩
    · rw [decide_eq_false h0] at q0 ⊢
      exact ifF rfl q0
  · refine ⟨_, rfl, rfl, _, rfl, ifF (by decide +kernel) ?_⟩
    refine ⟨_, rfl, rfl, _, rfl, ifF (by decide +kernel) ?_⟩
    refine ⟨_, rfl, rfl, _, rfl, ifF (by decide +kernel) ?_⟩
    refine ⟨_, rfl, (by show 2 ≤ sizeLine; decide), fun p hp => ?_⟩
    have s1 : Same H (upd H p (.tup [.ty "list", .ty "tuple"])) := smNew1 hp _
    obtain ⟨ty, h1, h2⟩ := ty_any (Dp.keep s1 hx)
    exact ⟨_, p, _, _, [.type "list", .type "tuple"], _, rfl, upd_same, .cons (.ty _) (.cons (.ty _) .nil), h1, h2, q _ s1⟩
/-! ### statements of any kind -/
/-- the items of a tuple with the word of s -/
def goodT (s : Stm) (ds : List PyData) : Bool := decide (ds.length = s.signs.length) && (List.zipWith goodI s.signs ds).all id
/-- no tuple, an empty one, or one with a word that is none -/
inductive Odd : PyData → Prop where
  | non : Odd .none
  | bl (b : Bool) : Odd (.bool b)
  | int (n : Int) : Odd (.int n)
  | str (z : Str) : Odd (.str z)
  | lst (l : List PyData) : Odd (.list l)
  | nil : Odd (.tuple [])
  | loop (ds : List PyData) : Odd (.tuple (.str "loop" :: ds))
def smallsD (ds : List PyData) : Prop := ∀ d ∈ ds, smallD d = true
def spStmG (K : PySem.W.Frag) : Sp := fun vs H Q _ => match vs with
  | [x] => (∃ (s : Stm) (ds : List PyData), Dp K H x (.tuple (.str s.word :: ds)) ∧ smallsD ds ∧ ds.length ≤ 1000 ∧ ∀ H', Same H H' → Q (.bl (goodT s ds)) H') ∨ ∃ d, Dp K H x d ∧ Odd d ∧ Q (.bl false) H
  | _ => False
theorem sign_one (s : Stm) {i c : Nat} (h : s.signs[i]? = some c) : c = 107 ∨ c = 118 ∨ c = 116 ∨ c = 98 := by
  have key : ∀ c ∈ s.signs, c = 107 ∨ c = 118 ∨ c = 116 ∨ c = 98 := by cases s <;> (intro c hc; simp [Stm.signs] at hc <;> try omega)
  exact key c (List.mem_of_getElem? h)
theorem signs_size (s : Stm) : s.form.cps.size = s.signs.length := by rw [← signs_eq]; rfl
theorem paired_bl : ∀ {ys : List V} {bs : List Bool}, Paired (fun y b => y = V.bl b) ys bs → ys = bs.map V.bl
  | _, _, .nil => rfl
  | _, _, .cons h t => by rw [h, paired_bl t]; rfl
theorem not_loop (T : Top w K mg) : PySem.W.nsIn K (He.ga K "FORMS") "loop" = some none := He.eqO_ok (no_loop T)
theorem cg_is_statement (T : Top w K mg) : Cal P w K mg base CX0 3 "is_statement" (spStmG K) := by
  refine cal_0 (f_is_statement T) (g_is_statement T) sc_is_statement (fun _ _ _ _ _ _ us hl => match us, hl with | [_], _ => rfl) (fun vs H Q E h => match vs, h with | [_], _ => rfl) (fun cdv A outer s H vs Q E hr h => ?_)
  match vs, h with
  | [x], h =>
  obtain ⟨es0, m0, D, _⟩ := forms T .wait
  rcases h with ⟨s, ds, hd, hs, hl, q⟩ | ⟨d, hd, ho, q⟩
  case inr =>
    refine ⟨_, (pss_cons (ps_if (PW.pt (pw_or (pt_not (pt_val (pcb (z_isinstance T) call_isi boot_isinstance (pa_cons (pv 0) (pa_cons (pty (z_tuple T) boot_tuple) pa_nil))))) (pw_or (pt_not (pt_truth (pv 0) (by intro _; rfl))) (pw_or (pt_not (pt_val (pcb (z_isinstance T) call_isi boot_isinstance (pa_cons (pe_ix ix_tup (pv 0) pe_int (fun _ _ => rfl)) (pa_cons (pty (z_str T) boot_str) pa_nil))))) (pw_or1 (pt_cmpR (op_notIn_kd D) (pe_ix ix_tup (pv 0) pe_int (fun _ _ => rfl)) (pglR (g_FORMS T)) rfl))))))
      (pss_one (ps_ret pe_bl))
      pss_nil)
    (pss_cons (ps_set (i := 1) sc_is_statement.nd rfl (Or.inl rfl) (pe_ix ix_kdict (pglR (g_FORMS T)) (pe_ix ix_tup (pv 0) pe_int (fun _ _ => rfl)) (fun _ _ => rfl)))
    (pss_cons (ps_if (pt_cmpR op_ne (pcb (z_len T) call_len_seq boot_len (pa_cons (pv 0) pa_nil)) (pe_op op_add (pcb (z_len T) call_len_str boot_len (pa_cons (pv 1) pa_nil)) pe_int) (nomark _))
      (pss_one (ps_ret pe_bl))
      pss_nil)
    (pss_one (ps_ret (pcb (z_all T) (cr_all rfl) boot_all (pa_cons (pe_lc (own := [("item", 2), ("sign", 3)]) rfl sc_is_statement.nd (pi_zipTS (by rfl) (z_zip T) (pa_cons (pe_slice sl_tup (pv 0) (po_some pe_int) po_none) (pa_cons (pv 1) pa_nil))) (blkOk_by (own := [("item", 2), ("sign", 3)]) (N := ["value", "form", "item", "sign"]) (sc := defScope s_is_statement) (by decide +kernel)) (fun _ _ _ _ _ => (pg_tup' (n := 2) (K := K) rfl rfl (pgs_cons (pg_name (i := 2) sc_is_statement.nd rfl (Or.inl rfl) (Or.inr rfl)) (pgs_cons (pg_name (i := 3) sc_is_statement.nd rfl (Or.inl rfl) (Or.inr rfl)) pgs_nil)) rfl rfl)) (fun _ _ _ _ _ => pts_nil) (fun _ _ _ _ _ => (pc (cg_is_item T) hr (pa_cons (pv 2) (pa_cons (pv 3) pa_nil))))) pa_nil))))))), ?_⟩
    cases ho with
    | non => cases hd; exact ⟨_, rfl, _, _, _, _, false, rfl, .ty _, .base .non, kit_ty (by decide +kernel), _, rfl, iteT q⟩
    | bl b => cases hd; exact ⟨_, rfl, _, _, _, _, false, rfl, .ty _, .base (.bl b), kit_ty (by decide +kernel), _, rfl, iteT q⟩
    | int b => cases hd; exact ⟨_, rfl, _, _, _, _, false, rfl, .ty _, .base (.int b), kit_ty (by decide +kernel), _, rfl, iteT q⟩
    | str b => cases hd; exact ⟨_, rfl, _, _, _, _, false, rfl, .ty _, .base (.str b), kit_ty (by decide +kernel), _, rfl, iteT q⟩
    | lst b =>
      obtain ⟨a, xs, rfl, h1, _⟩ := Dp.lst_inv hd
      exact ⟨_, rfl, _, _, _, _, false, rfl, .ty _, tyL h1, kit_ty (by decide +kernel), _, rfl, iteT q⟩
    | nil =>
      obtain ⟨a, xs, rfl, ha, hx⟩ := Dp.tup_inv hd
      obtain rfl := DpAll.nil_inv hx
      refine ⟨_, rfl, _, _, _, _, true, rfl, .ty _, tyT ha, kit_ty (by decide +kernel), _, rfl, iteF ?_⟩
      exact ⟨_, rfl, false, Or.inr (Or.inl ⟨_, ha, rfl⟩), iteT q⟩
    | loop ds =>
      obtain ⟨a, xs, rfl, ha, hx⟩ := Dp.tup_inv hd
      obtain ⟨v, r, rfl, h1, h2⟩ := DpAll.cons_inv hx
      obtain rfl := Dp.str_inv h1
      refine ⟨_, rfl, _, _, _, _, true, rfl, .ty _, tyT ha, kit_ty (by decide +kernel), _, rfl, iteF ?_⟩
      refine ⟨_, rfl, true, Or.inr (Or.inl ⟨_, ha, rfl⟩), iteF ?_⟩
      refine ⟨_, rfl, _, _, _, _, rfl, rfl, ha, at0, ?_⟩
      refine ⟨_, _, _, _, true, rfl, .ty _, .base (.str _), kit_ty (by decide +kernel), _, rfl, iteF ?_⟩
      exact ⟨_, rfl, _, _, _, _, rfl, rfl, ha, at0, _, _, rfl, rfl, not_loop T, _, rfl, iteT q⟩
  obtain ⟨es, m, D, u, hu, ru⟩ := forms T s
  obtain ⟨a, xs0, rfl, ha, hx0⟩ := Dp.tup_inv hd
  obtain ⟨v, xs, rfl, h1, hx⟩ := DpAll.cons_inv hx0
  obtain rfl := Dp.str_inv h1
  refine ⟨_, (pss_cons (ps_if (PW.pt (pw_or (pt_not (pt_val (pcb (z_isinstance T) call_isi boot_isinstance (pa_cons (pv 0) (pa_cons (pty (z_tuple T) boot_tuple) pa_nil))))) (pw_or (pt_not (pt_truth (pv 0) (by intro _; rfl))) (pw_or (pt_not (pt_val (pcb (z_isinstance T) call_isi boot_isinstance (pa_cons (pe_ix ix_tup (pv 0) pe_int (fun _ _ => rfl)) (pa_cons (pty (z_str T) boot_str) pa_nil))))) (pw_or1 (pt_cmpR (op_notIn_kd D) (pe_ix ix_tup (pv 0) pe_int (fun _ _ => rfl)) (pglR (g_FORMS T)) rfl))))))
      (pss_one (ps_ret pe_bl))
      pss_nil)
    (pss_cons (ps_set (i := 1) sc_is_statement.nd rfl (Or.inl rfl) (pe_ix ix_kdict (pglR (g_FORMS T)) (pe_ix ix_tup (pv 0) pe_int (fun _ _ => rfl)) (fun _ _ => rfl)))
    (pss_cons (ps_if (pt_cmpR op_ne (pcb (z_len T) call_len_seq boot_len (pa_cons (pv 0) pa_nil)) (pe_op op_add (pcb (z_len T) call_len_str boot_len (pa_cons (pv 1) pa_nil)) pe_int) (nomark _))
      (pss_one (ps_ret pe_bl))
      pss_nil)
    (pss_one (ps_ret (pcb (z_all T) (cr_all rfl) boot_all (pa_cons (pe_lc (own := [("item", 2), ("sign", 3)]) rfl sc_is_statement.nd (pi_zipTS (by rfl) (z_zip T) (pa_cons (pe_slice sl_tup (pv 0) (po_some pe_int) po_none) (pa_cons (pv 1) pa_nil))) (blkOk_by (own := [("item", 2), ("sign", 3)]) (N := ["value", "form", "item", "sign"]) (sc := defScope s_is_statement) (by decide +kernel)) (fun _ _ _ _ _ => (pg_tup' (n := 2) (K := K) rfl rfl (pgs_cons (pg_name (i := 2) sc_is_statement.nd rfl (Or.inl rfl) (Or.inr rfl)) (pgs_cons (pg_name (i := 3) sc_is_statement.nd rfl (Or.inl rfl) (Or.inr rfl)) pgs_nil)) rfl rfl)) (fun _ _ _ _ _ => pts_nil) (fun _ _ _ _ _ => (pc (cg_is_item T) hr (pa_cons (pv 2) (pa_cons (pv 3) pa_nil))))) pa_nil))))))), ?_⟩
  refine ⟨_, rfl, _, _, _, _, true, rfl, .ty _, tyT ha, kit_ty (by decide +kernel), _, rfl, iteF ?_⟩
  refine ⟨_, rfl, true, Or.inr (Or.inl ⟨_, ha, rfl⟩), iteF ?_⟩
  refine ⟨_, rfl, _, _, _, _, rfl, rfl, ha, at0, ?_⟩
  refine ⟨_, _, _, _, true, rfl, .ty _, .base (.str _), kit_ty (by decide +kernel), _, rfl, iteF ?_⟩
  refine ⟨_, rfl, _, _, _, _, rfl, rfl, ha, at0, _, _, rfl, rfl, hu, _, rfl, iteF ?_⟩
  refine ⟨_, rfl, _, _, _, _, rfl, rfl, ha, at0, _, _, _, rfl, rfl, ⟨es, m, u, D.1, D.2, hu, ru⟩, ?_⟩
  have lx := DpAll.len hx
  have sz := signs_size s
  refine ⟨_, rfl, _, _, rfl, .inr ha, _, rfl, _, rfl, (word_sz s).2, _, _, rfl, rfl, rfl, _, rfl, ?_⟩
  by_cases c : ds.length = s.signs.length
  case neg =>
    refine ifT ?_ ?_
    · rw [Bool.not_eq_true', decide_eq_false_iff_not]
      intro e
      have e2 : (((V.str s.word :: xs).length : Nat) : Int) = (s.form.length : Int) + 1 := V.int.inj e
      rw [List.length_cons] at e2
      have : s.form.length = s.form.cps.size := rfl
      omega
    · have q0 := q H (Same.refl H)
      unfold goodT at q0
      rw [decide_eq_false c] at q0
      exact q0
  refine ifF ?_ ?_
  · rw [Bool.not_eq_false', decide_eq_true_eq]
    show V.int (((V.str s.word :: xs).length : Nat) : Int) = V.int ((s.form.length : Int) + 1)
    rw [List.length_cons, lx, c, ← sz]
    rfl
  refine ⟨_, rfl, _, rfl, _, _, rfl, ha, cut_not, fun p hp => ?_⟩
  rw [cut_tail]
  have s1 : Same H (upd H p (.tup xs)) := smNew1 hp _
  refine ⟨_, rfl, _, xs, _, rfl, SqT.of upd_same, fun D nD => ?_⟩
  have hl' : xs.length = s.form.cps.size := by omega
  refine lc_opt (walk_zipTS hl') (fun (b : Bool) y _ => y = .bl b) (fun i => (List.zipWith goodI s.signs ds)[i]?) nD (small1000 (by omega)) (fun H' e => smT e (SqT.of upd_same)) (fun _ _ _ _ h _ => h) (fun _ _ _ _ _ h _ => h) ?_ ?_
  · rintro i x H1 H2 N hi e ⟨t, y, z, rfl, ht, rfl, hy, hz⟩ hk _
    obtain ⟨c1, hc1, rfl⟩ := Option.map_eq_some_iff.mp hz
    have hsg := sign_at hc1
    obtain ⟨d, hd1, hd2⟩ := DpAll.getV hx hy
    refine ⟨t, _, rfl, SqT.of upd_same, rfl, _, _, rfl, _, _, rfl, rfl, rfl, ?_⟩
    refine yesI ?_
    have sx : Same H (upd H1 t (.tup [y, .str ⟨#[c1]⟩])) := smNew (fun b o q => e b o (s1 b o q)) ht _
    refine ⟨_, rfl, _, rfl, c1, d, rfl, sign_one s hsg, Dp.keep sx hd2, hs d (List.mem_of_getElem? hd1), fun H3 s3 => ?_⟩
    refine hk _ _ (goodI c1 d) ?_ (fun b o q => s3 b o (smNew1 ht _ b o q)) rfl
    rw [List.getElem?_zipWith, hsg, hd1]
  · intro H' ys e hD hp'
    have ez : xs.length = (List.zipWith goodI s.signs ds).length := by rw [List.length_zipWith]; omega
    rw [ez, some_range] at hp'
    rw [paired_bl hp'] at hD
    have e3 : goodT s ds = (List.zipWith goodI s.signs ds).all id := by unfold goodT; rw [decide_eq_true c]; rfl
    have q1 := q H' fun b o z => e _ _ (s1 b o z)
    rw [e3] at q1
    exact ⟨_, _, rfl, SqL.of hD, q1⟩
end
end RM

set_option Elab.async false
set_option linter.all false
set_option maxRecDepth 100000
set_option maxHeartbeats 2000000
namespace RM
open PySem PySem.Spec PyProof.Rows L2
section
variable {P : Program} {w : World} {K : PySem.W.Frag} {mg : Str → Option Value} {base : Heap}
theorem sc_BadStatement_init : FnScope ["self", "path"] ["self", "path"] (defScope s_BadStatement_init) := ⟨rfl, rfl, rfl, by decide +kernel, rfl, by decide +kernel, by decide +kernel⟩
theorem c_BadStatement_init (T : Top w K mg) : Exo P w K mg base 1 "BadStatement" (He.ga K "BadStatement") (spExo (He.ga K "BadStatement") "path") := by
  refine exo_0 (f_BadStatement_init T) (oexB_ok (oex_BadStatement T)) (me_BadStatement_init T) (g_BadStatement T) sc_BadStatement_init (fun _ _ _ _ _ _ us hl => match us, hl with | [_, _], _ => rfl) (fun vs H Q E h => match vs, h with | [_, _], _ => rfl) (fun cdv A outer s H vs Q E hr h => ?_)
  match vs, h with
  | [x, v], h =>
  obtain ⟨a, rfl, ha, q⟩ := h
  refine ⟨_, (pss_one (ps_ost (pv 0) (pv 1))), ?_⟩
  exact ⟨_, rfl, _, rfl, a, _, rfl, oexB_ok (oex_BadStatement T), na_BadStatement_path T, .inl ⟨ha, fun dx h1 h2 => q dx h1 h2⟩⟩
/-! ### bodies_of, of any right tuple -/
def sel98 (s : Stm) (ds : List PyData) : List PyData := (List.range ds.length).filterMap fun i => if s.signs[i]? = some 98 then ds[i]? else none
def spBodG (K : PySem.W.Frag) : Sp := fun vs H Q _ => match vs with
  | [x] => ∃ (s : Stm) (ds : List PyData), Dp K H x (.tuple (.str s.word :: ds)) ∧ ds.length = s.signs.length ∧
    ∀ p H' ys, Same H H' → H p = none → H' p = some (.lst ys) → DpAll K H ys (sel98 s ds) → Q (.ref p) H'
  | _ => False
theorem cg_bodies_of (T : Top w K mg) : Cal P w K mg base CX0 1 "bodies_of" (spBodG K) := by
  refine cal_0 (f_bodies_of T) (g_bodies_of T) sc_bodies_of (fun _ _ _ _ _ _ us hl => match us, hl with | [_], _ => rfl) (fun vs H Q E h => match vs, h with | [_], _ => rfl) (fun cdv A outer s H vs Q E hr h => ?_)
  match vs, h with
  | [x], h =>
  obtain ⟨s, ds, hd, hl0, q⟩ := h
  obtain ⟨a, xs0, rfl, ha, hx0⟩ := Dp.tup_inv hd
  obtain ⟨v, xs, rfl, h1, hx⟩ := DpAll.cons_inv hx0
  obtain rfl := Dp.str_inv h1
  have hl : xs.length = s.form.cps.size := by rw [DpAll.len hx, hl0, signs_size]
  have i4 := form_five s
  refine ⟨_, (pss_one (ps_ret (pe_lc (own := [("item", 1), ("sign", 2)]) rfl sc_bodies_of.nd (pi_zipTS (by rfl) (z_zip T) (pa_cons (pe_slice sl_tup (pv 0) (po_some pe_int) po_none) (pa_cons (pe_ix ix_kdict (pglR (g_FORMS T)) (pe_ix ix_tup (pv 0) pe_int (fun _ _ => rfl)) (fun _ _ => rfl)) pa_nil))) (blkOk_by (own := [("item", 1), ("sign", 2)]) (N := ["statement", "item", "sign"]) (sc := defScope s_bodies_of) (by decide +kernel)) (fun _ _ _ _ _ => (pg_tup' (n := 2) (K := K) rfl rfl (pgs_cons (pg_name (i := 1) sc_bodies_of.nd rfl (Or.inl rfl) (Or.inr rfl)) (pgs_cons (pg_name (i := 2) sc_bodies_of.nd rfl (Or.inl rfl) (Or.inr rfl)) pgs_nil)) rfl rfl)) (fun _ _ _ _ _ => (pts_one (pt_cmpR op_eq (pv 2) pe_str (nomark _)))) (fun _ _ _ _ _ => (pv 1))))), ?_⟩
  refine ⟨_, rfl, _, rfl, _, _, rfl, ha, cut_not, fun p hp => ?_⟩
  rw [cut_tail]
  have s1 : Same H (upd H p (.tup xs)) := smNew1 hp _
  refine ⟨_, rfl, _, _, _, _, rfl, rfl, smT s1 ha, at0, _, _, _, rfl, rfl, kd_form T s, ?_⟩
  refine ⟨_, xs, _, rfl, SqT.of upd_same, fun D nD => ?_⟩
  have hDn : H D = none := s1.free nD
  refine lc_opt (walk_zipTS hl) (fun (d : PyData) y _ => Dp K H y d) (fun i => if s.signs[i]? = some 98 then ds[i]? else none) nD (small1000 (by omega)) (fun H' e => smT e (SqT.of upd_same)) (fun _ _ _ _ h _ => h) (fun _ _ _ _ _ h _ => h) ?_ ?_
  · rintro i x H1 H2 N hi e ⟨t, y, z, rfl, ht, rfl, hy, hz⟩ hk hno
    obtain ⟨c, hc, rfl⟩ := Option.map_eq_some_iff.mp hz
    have hs := sign_at hc
    refine ⟨t, _, rfl, SqT.of upd_same, rfl, _, _, rfl, _, _, rfl, rfl, rfl, _, rfl, ?_⟩
    obtain ⟨d, hd1, hd2⟩ := DpAll.getV hx hy
    by_cases c98 : c = 98
    · subst c98
      refine ⟨rfl, _, rfl, ifT (by rw [str_b, sgn]; rfl) ?_⟩
      exact ⟨_, rfl, hk _ _ d (by rw [hs, if_pos rfl]; exact hd1) (smNew1 ht _) hd2⟩
    · refine ⟨rfl, _, rfl, ifF (by rw [str_b, sgn]; exact decide_eq_false c98) ?_⟩
      exact hno (by rw [hs, if_neg (fun z => c98 (Option.some.inj z))]) _ (smNew1 ht _)
  · intro H' ys e hD hp'
    rw [DpAll.len hx] at hp'
    exact q D H' ys (fun b o z => e _ _ (s1 b o z)) hDn hD (paired_dp hp')
/-! ### check_body, of any body -/
/-- a body with a first wrong statement: there (odd), or within the repeat there -/
inductive Bad where
  | odd (pre : List Stm) (d : PyData) (post : List PyData)
  | rep (pre : List Stm) (n : Int) (b : Bad) (post : List PyData)
/-- no statement -/
def BadS (d : PyData) : Prop := Odd d ∨ ∃ s ds, d = .tuple (.str (Stm.word s) :: ds) ∧ smallsD ds ∧ ds.length ≤ 1000 ∧ goodT s ds = false
namespace Bad
def enc : Bad → List PyData
  | .odd pre d post => encB true pre ++ d :: post
  | .rep pre n b post => encB true pre ++ .tuple [.str "repeat", .int n, .list b.enc] :: post
/-- the path of the wrong statement -/
def path (p : List Int) : Bad → List Int
  | .odd pre _ _ => p ++ [(pre.length : Int)]
  | .rep pre _ b _ => b.path (p ++ [(pre.length : Int)] ++ [0])
def pre : Bad → List Stm
  | .odd pre _ _ => pre
  | .rep pre _ _ _ => pre
/-- the statement that is wrong or holds the wrong one -/
def at_ : Bad → PyData
  | .odd _ d _ => d
  | .rep _ n b _ => .tuple [.str "repeat", .int n, .list b.enc]
def post : Bad → List PyData
  | .odd _ _ post => post
  | .rep _ _ _ post => post
/-- how deep what is looked at goes -/
def deep : Bad → Nat
  | .odd pre _ _ => dB pre
  | .rep pre _ b _ => max (dB pre) (b.deep + 1)
def ok : Bad → Prop
  | .odd pre d _ => wB pre = true ∧ BadS d
  | .rep pre n b _ => wB pre = true ∧ (0 ≤ n ∧ n ≤ 3) ∧ b.ok
theorem enc_eq (b : Bad) : b.enc = encB true b.pre ++ b.at_ :: b.post := by cases b <;> rfl
theorem ok_pre {b : Bad} (h : b.ok) : wB b.pre = true := by cases b <;> exact h.1
theorem deep_pre (b : Bad) : dB b.pre ≤ b.deep := by
  cases b with
  | odd => exact Nat.le_refl _
  | rep => exact Nat.le_max_left _ _
end Bad
theorem sel_body {s : Stm} (f : List Stm → PyData) : sel98 s (s.flats ++ s.bodies.map f) = s.bodies.map f := bodies_sel s f
theorem goodT_stm {s : Stm} (fl : Bool) (h : wl s = true) : goodT s (s.flats ++ s.bodies.map fun b => seqD fl (encB fl b)) = true := by
  have g : ∀ b : List Stm, goodI 98 (seqD fl (encB fl b)) = true := fun b => by cases fl <;> rfl
  unfold goodT
  rw [items_len, decide_eq_true rfl, Bool.true_and]
  cases s <;> simp only [wl, Bool.and_eq_true] at h <;> simp only [Stm.signs, Stm.flats, Stm.bodies, List.map_cons, List.map_nil, List.cons_append, List.nil_append, List.zipWith_cons_cons, List.zipWith_nil_left, List.all_cons, List.all_nil, id, Bool.and_true, Bool.and_eq_true, g]
  · exact And.intro h.1 h.2
  · exact And.intro h.1 h.2
  · exact And.intro h.1 h.2
  · exact h
  · exact h
  · exact And.intro h.1 h.2
  · exact And.intro h.1 h.2
  · show (decide _ && decide _) = true
    rw [h.1, h.2]
    rfl
theorem smalls_stm {s : Stm} (fl : Bool) (h : wl s = true) : smallsD (s.flats ++ s.bodies.map fun b => seqD fl (encB fl b)) := by
  have g : ∀ b : List Stm, smallD (seqD fl (encB fl b)) = true := fun b => by cases fl <;> rfl
  have z : ∀ {v : Str}, isWord v = true → smallD (.str v) = true := fun {v} hv => by
    show decide (v.length ≤ 1000) = true
    have := isWord_len hv
    exact decide_eq_true (by omega)
  intro d hd
  rcases List.mem_append.mp hd with hd | hd
  · cases s <;> simp only [wl, Bool.and_eq_true] at h <;> simp only [Stm.flats, List.mem_cons, List.not_mem_nil, or_false] at hd
    · rcases hd with rfl | rfl
      · exact z h.1
      · exact z h.2
    · rcases hd with rfl | rfl
      · exact z h.1
      · rfl
    · rcases hd with rfl | rfl
      · exact z h.1
      · exact z h.2
    · rw [hd]; exact z h
    · rw [hd]; rfl
    · rcases hd with rfl | rfl
      · exact z h.1
      · rfl
    · rcases hd with rfl | rfl
      · exact z h.1
      · exact z h.2
    · rw [hd]; rfl
  · obtain ⟨b, _, rfl⟩ := List.mem_map.mp hd
    exact g b
def spCheckG (K : PySem.W.Frag) (n : Nat) : Sp := fun vs H Q E => match vs with
  | [b, p] => ∃ (fl : Bool) (pth : List Int), Dp K H p (pathD pth) ∧ pth.length + 2 * n ≤ 1000 ∧
    ((∃ l : List Stm, Dp K H b (seqD fl (encB true l)) ∧ wB l = true ∧ dB l ≤ n ∧ ∀ H', Same H H' → Q .non H') ∨
     (∃ c : Bad, Dp K H b (seqD fl c.enc) ∧ c.ok ∧ c.deep ≤ n ∧ ∀ d H' v, H d = none → Same H H' → H' d = some (.xd [("path", v)]) → Dp K H' v (pathD (c.path pth)) → E (.ref (He.ga K "BadStatement")) (some d) H'))
  | _ => False
theorem ok_checkG (T : Top w K mg) {n : Nat} (ih : Cal P w K mg base (L2.CX P w) (n + 4) "check_body" (spCheckG K n)) : Cal P w K mg base (L2.CX P w) (n + 5) "check_body" (spCheckG K (n + 1)) := by
  refine cal_X (f_check_body T) (g_check_body T) sc_check_body (fun _ _ _ _ _ _ us hl => match us, hl with | [_, _], _ => rfl) (fun vs H Q E h => match vs, h with | [_, _], _ => rfl) (fun cdv A outer s H vs Q E hr h => ?_)
  match vs, h with
  | [b, p], h =>
  obtain ⟨fl, pth, hp, hlen, h⟩ := h
  refine ⟨_, (pss_one (ps_for (passes_of rfl) rfl (pi_enumA (by rfl) (z_enumerate T) (pa_cons (pv 0) pa_nil)) (pg_tup rfl (pgs_cons (pg_name (i := 2) sc_check_body.nd rfl (Or.inl rfl)) (pgs_cons (pg_name (i := 3) sc_check_body.nd rfl (Or.inl rfl)) pgs_nil)))
      (pss_cons (ps_set (i := 4) sc_check_body.nd rfl (Or.inl rfl) (pe_op op_catG (pv 1) (pe_tup (pa_cons (pv 2) pa_nil))))
    (pss_cons (ps_if (pt_not (pt_val (pc (cg_is_statement T) hr (pa_cons (pv 3) pa_nil))))
      (pss_one (ps_raiseX (takes_of rfl rfl rfl rfl) (c_BadStatement_init T) hr (pa_cons (pv 4) pa_nil)))
      pss_nil)
    (pss_one (ps_for (passes_of rfl) rfl (pi_enumA (by rfl) (z_enumerate T) (pa_cons (pc (cg_bodies_of T) hr (pa_cons (pv 3) pa_nil)) pa_nil)) (pg_tup rfl (pgs_cons (pg_name (i := 5) sc_check_body.nd rfl (Or.inl rfl)) (pgs_cons (pg_name (i := 6) sc_check_body.nd rfl (Or.inl rfl)) pgs_nil)))
      (pss_one (ps_expr (pcX (takes_of rfl rfl rfl rfl) ih hr (pa_cons (pv 6) (pa_cons (pe_op op_catG (pv 4) (pe_tup (pa_cons (pv 5) pa_nil))) pa_nil))))))))))), ?_⟩
  obtain ⟨pre, ds, hb, hw, hn, hk⟩ : ∃ (pre : List Stm) (ds : List PyData), Dp K H b (seqD fl ds) ∧ wB pre = true ∧ dB pre ≤ n + 1 ∧ ((ds = encB true pre ∧ ∀ H', Same H H' → Q .non H') ∨
      ∃ c : Bad, pre = c.pre ∧ ds = c.enc ∧ c.ok ∧ c.deep ≤ n + 1 ∧ ∀ d H' v, H d = none → Same H H' → H' d = some (.xd [("path", v)]) → Dp K H' v (pathD (c.path pth)) → E (.ref (He.ga K "BadStatement")) (some d) H') := by
    rcases h with ⟨l, h1, h2, h3, h4⟩ | ⟨c, h1, h2, h3, h4⟩
    · exact ⟨l, _, h1, h2, h3, .inl ⟨rfl, h4⟩⟩
    · exact ⟨c.pre, _, h1, Bad.ok_pre h2, Nat.le_trans c.deep_pre h3, .inr ⟨c, rfl, rfl, h2, h3, h4⟩⟩
  obtain ⟨a, xs, rfl, ha, hx⟩ := seqD_inv hb
  have lx := DpAll.len hx
  have lp : pre.length = ds.length ∨ pre.length < ds.length := by
    rcases hk with ⟨rfl, _⟩ | ⟨c, rfl, rfl, _⟩
    · exact .inl (by rw [encB_map, List.length_map])
    · exact .inr (by rw [c.enc_eq, List.length_append, encB_map, List.length_map, List.length_cons]; omega)
  have atp : ∀ {i : Nat} {d : PyData}, ds[i]? = some d → i < pre.length → ∃ st, pre[i]? = some st ∧ d = encS true st := by
    intro i d hd hi
    have e : (encB true pre)[i]? = some d := by
      rcases hk with ⟨rfl, _⟩ | ⟨c, rfl, rfl, _⟩
      · exact hd
      · rw [c.enc_eq, List.getElem?_append_left (by rw [encB_map, List.length_map]; exact hi)] at hd
        exact hd
    exact encB_get e
  refine ⟨_, rfl, ?_⟩
  refine enumA_of ha (Same.refl _) fun J wk => ?_
  refine for_it wk (fun i σ H' => i ≤ pre.length ∧ Same H H' ∧ ∃ v2 v3 v4 v5 v6, σ = [some (.ref a), some p, v2, v3, v4, v5, v6]) ⟨Nat.zero_le _, Same.refl H, _, _, _, _, _, rfl⟩ (fun _ _ _ _ h => h.2.1) ?_ ?_
  · rintro i x σ H1 H2 hi ⟨ip, s1, v2, v3, v4, v5, v6, rfl⟩ ⟨t, y, z, rfl, ht, rfl, hy, hz⟩
    obtain rfl : V.int (i : Nat) = y := Option.some.inj hy
    obtain ⟨d, hd1, hd2⟩ := DpAll.getV hx hz
    have s2 := smNew s1 ht (.tup [.int (i : Nat), z])
    refine ⟨t, _, rfl, SqT.of upd_same, rfl, _, _, rfl, _, _, rfl, rfl, ?_⟩
    obtain ⟨pa, rfl, hpa⟩ := path_inv (Dp.keep s2 hp)
    refine ⟨_, rfl, _, rfl, (by show 1 ≤ sizeLine; decide), fun p1 hp1 => ?_⟩
    have s3 := smNew s2 hp1 (.tup [.int (i : Nat)])
    refine path_snoc (smT (smNew1 hp1 _) hpa) (SqT.of upd_same) (Nat.le_of_lt (small1000 (by omega))) fun here H3 s3' hh => ?_
    have s4 : Same H H3 := s3.trans s3'
    by_cases hip : i < pre.length
    case neg =>
      have ie : i = pre.length := by omega
      obtain ⟨c, rfl, rfl, hc, hcd, q⟩ : ∃ c : Bad, pre = c.pre ∧ ds = c.enc ∧ c.ok ∧ c.deep ≤ n + 1 ∧ ∀ d H' v, H d = none → Same H H' → H' d = some (.xd [("path", v)]) → Dp K H' v (pathD (c.path pth)) → E (.ref (He.ga K "BadStatement")) (some d) H' := by
        rcases hk with ⟨rfl, _⟩ | h
        · have := (List.getElem?_eq_some_iff.mp hd1).1
          rw [encB_map, List.length_map] at this
          exact absurd this hip
        · exact h
      subst ie
      rw [c.enc_eq, List.getElem?_append_right (by rw [encB_map, List.length_map]; exact Nat.le_refl _)] at hd1
      have hd1' : c.at_ = d := by
        have e : c.pre.length - (encB true c.pre).length = 0 := by rw [encB_map, List.length_map]; omega
        rw [e] at hd1
        exact Option.some.inj hd1
      subst hd1'
      cases c with
      | odd pre d post =>
        have hd4 := Dp.keep s4 hd2
        have rais : ∀ H4, Same H3 H4 → ∀ {R : Prop}, ((∀ d H', H4 d = none → Same H4 H' → H' d = some (.xd [("path", here)]) → E (.ref (He.ga K "BadStatement")) (some d) H') → R) → R := fun H4 e4 R g => g fun d H' nd e hd => q d H' here ((s4.trans e4).free nd) ((s4.trans e4).trans e) hd (Dp.keep (e4.trans e) hh)
        rcases hc.2 with ho | ⟨s, dt, rfl, h1, h2, h3⟩
        · refine ⟨_, rfl, .inr ⟨d, hd4, ho, ⟨_, rfl, iteT ?_⟩⟩⟩
          exact rais H3 (Same.refl _) fun g => ⟨_, rfl, raise1 g⟩
        · refine ⟨_, rfl, .inl ⟨s, dt, hd4, h1, h2, fun H4 e4 => ?_⟩⟩
          rw [h3]
          exact ⟨_, rfl, iteT (rais H4 e4 fun g => ⟨_, rfl, raise1 g⟩)⟩
      | rep pre m c post =>
        have hd4 := Dp.keep s4 hd2
        have gt : goodT (.rep m []) [.int m, .list c.enc] = true := by
          show (decide (2 = 2) && ((decide (0 ≤ m) && decide (m ≤ 3)) && (true && true))) = true
          rw [decide_eq_true hc.2.1.1, decide_eq_true hc.2.1.2]
          rfl
        refine ⟨_, rfl, .inl ⟨.rep m [], _, hd4, fun d hd => by
          rcases List.mem_cons.mp hd with rfl | hd
          · rfl
          · rw [List.mem_singleton.mp hd]; rfl, by show 2 ≤ 1000; omega, fun H4 e4 => ?_⟩⟩
        rw [gt]
        refine ⟨_, rfl, iteF ?_⟩
        have s5 : Same H H4 := s4.trans e4
        refine ⟨_, rfl, .rep m [], _, Dp.keep e4 hd4, rfl, fun pb H5 ys e5 npb hpb hys => ?_⟩
        have hys1 : DpAll K H4 ys [.list c.enc] := hys
        obtain ⟨yv, yr, rfl, hy1, hy2⟩ := DpAll.cons_inv hys1
        obtain rfl := DpAll.nil_inv hy2
        refine enumA_of (.inl (SqL.of hpb)) (Same.refl _) fun J2 wk2 => ?_
        refine for_it wk2 (fun j σ H' => j = 0 ∧ Same H5 H' ∧ ∃ v5 v6, σ = [some (.ref a), some (.ref pa), some (.int (pre.length : Nat)), some z, some here, v5, v6]) ⟨rfl, Same.refl H5, _, _, rfl⟩ (fun _ _ _ _ h => h.2.1) ?_ ?_
        · rintro j x2 σ2 H6 H7 hj ⟨rfl, s6, w5, w6, rfl⟩ ⟨t2, y2, z2, rfl, ht2, rfl, hy2, hz2⟩
          obtain rfl : V.int (0 : Nat) = y2 := Option.some.inj hy2
          obtain rfl : yv = z2 := Option.some.inj hz2
          have s7 : Same H4 H6 := e5.trans s6
          have s8 := smNew s7 ht2 (.tup [.int (0 : Nat), yv])
          refine ⟨t2, _, rfl, SqT.of upd_same, rfl, _, _, rfl, _, _, rfl, rfl, ?_⟩
          obtain ⟨ha2, rfl, hha⟩ := path_inv (Dp.keep s8 (Dp.keep e4 hh))
          refine ⟨_, rfl, _, rfl, _, rfl, (by show 1 ≤ sizeLine; decide), fun p2 hp2 => ?_⟩
          refine path_snoc (smT (smNew1 hp2 _) hha) (SqT.of upd_same) (Nat.le_of_lt (small1000 (by rw [List.length_append]; show pth.length + 1 + 1 ≤ 1000; omega))) fun hv H8 s9 hhv => ?_
          have s10 : Same H4 H8 := (smNew s8 hp2 _).trans s9
          have cd : c.deep + 1 ≤ n + 1 := Nat.le_trans (Nat.le_max_right _ _) hcd
          refine ⟨true, _, hhv, by rw [List.length_append, List.length_append]; show pth.length + 1 + 1 + 2 * n ≤ 1000; omega, .inr ⟨c, Dp.keep s10 hy1, hc.2.2, by omega, fun d H' v nd e hd hv => ?_⟩⟩
          exact q d H' v ((s5.trans s10).free nd) ((s5.trans s10).trans e) hd hv
        · rintro σ2 H6 ⟨h0, _⟩
          cases h0
    obtain ⟨st, hst, rfl⟩ := atp hd1 hip
    have hm : st ∈ pre := List.mem_of_getElem? hst
    have hws := wB_all hw st hm
    have hl := wl_of hws
    have hd4 := Dp.keep s4 hd2
    rw [encS_eq] at hd4
    refine ⟨_, rfl, .inl ⟨st, _, hd4, smalls_stm true hl, by rw [items_len]; cases st <;> (show _ ≤ 1000; simp [Stm.signs]), fun H4 e4 => ?_⟩⟩
    rw [goodT_stm true hl]
    refine ⟨_, rfl, iteF ?_⟩
    have s5 : Same H H4 := s4.trans e4
    refine ⟨_, rfl, st, _, Dp.keep e4 hd4, items_len _ _, fun pb H5 ys e5 npb hpb hys => ?_⟩
    rw [sel_body] at hys
    refine enumA_of (.inl (SqL.of hpb)) (Same.refl _) fun J2 wk2 => ?_
    refine for_it wk2 (fun j σ H' => Same H5 H' ∧ ∃ v5 v6, σ = [some (.ref a), some (.ref pa), some (.int (i : Nat)), some z, some here, v5, v6]) ⟨Same.refl H5, _, _, rfl⟩ (fun _ _ _ _ h => h.1) ?_ ?_
    · rintro j x2 σ2 H6 H7 hj ⟨s6, w5, w6, rfl⟩ ⟨t2, y2, z2, rfl, ht2, rfl, hy2, hz2⟩
      obtain rfl : V.int (j : Nat) = y2 := Option.some.inj hy2
      obtain ⟨d2, hd3, hd4'⟩ := DpAll.getV hys hz2
      rw [List.getElem?_map] at hd3
      obtain ⟨bd, hbd, rfl⟩ := Option.map_eq_some_iff.mp hd3
      have hmb : bd ∈ st.bodies := List.mem_of_getElem? hbd
      have s7 : Same H4 H6 := e5.trans s6
      have s8 := smNew s7 ht2 (.tup [.int (j : Nat), z2])
      refine ⟨t2, _, rfl, SqT.of upd_same, rfl, _, _, rfl, _, _, rfl, rfl, ?_⟩
      obtain ⟨ha2, rfl, hha⟩ := path_inv (Dp.keep s8 (Dp.keep e4 hh))
      refine ⟨_, rfl, _, rfl, _, rfl, (by show 1 ≤ sizeLine; decide), fun p2 hp2 => ?_⟩
      refine path_snoc (smT (smNew1 hp2 _) hha) (SqT.of upd_same) (Nat.le_of_lt (small1000 (by rw [List.length_append]; show pth.length + 1 + 1 ≤ 1000; omega))) fun hv H8 s9 hhv => ?_
      have s10 : Same H4 H8 := (smNew s8 hp2 _).trans s9
      have d1 := dB_mem hm
      have d2' := dS_mem hmb
      refine ⟨true, _, hhv, by rw [List.length_append, List.length_append]; show pth.length + 1 + 1 + 2 * n ≤ 1000; omega, .inl ⟨bd, Dp.keep s10 hd4', wB_of hws bd hmb, by omega, fun H9 e9 => ?_⟩⟩
      refine ⟨fun b o z => e9 _ _ ((smNew (smNew s6 ht2 _) hp2 _).trans s9 b o z), _, _, rfl⟩
    · rintro σ2 H6 ⟨s6, w5, w6, rfl⟩
      exact ⟨hip, s5.trans (e5.trans s6), _, _, _, _, _, rfl⟩
  · rintro σ H1 ⟨ip, s1, v2, v3, v4, v5, v6, rfl⟩
    rcases hk with ⟨_, q⟩ | ⟨c, rfl, rfl, _⟩
    · exact q H1 s1
    · rw [c.enc_eq, List.length_append, encB_map, List.length_map, List.length_cons] at lx
      omega
theorem c_checkG (T : Top w K mg) : ∀ n, Cal P w K mg base (L2.CX P w) (n + 4) "check_body" (spCheckG K n)
  | 0 => calX_never (f_check_body T) (g_check_body T) (ps := ["body", "path"]) (fun _ _ _ _ _ _ us hl => match us, hl with | [_, _], _ => rfl) fun vs H Q E h => by
      match vs, h with
      | [b, p], h =>
      obtain ⟨fl, pth, _, _, h⟩ := h
      rcases h with ⟨l, _, _, hn, _⟩ | ⟨c, _, _, hn, _⟩
      · have := dB_one l
        omega
      · have := dB_one c.pre
        have := c.deep_pre
        omega
  | n + 1 => ok_checkG T (c_checkG T n)
end
end RM

set_option Elab.async false
set_option linter.all false
set_option maxRecDepth 100000
set_option maxHeartbeats 2000000
namespace RM
open PySem PySem.Spec PyProof.Rows L2
section
variable {P : Program} {w : World} {K : PySem.W.Frag} {mg : Str → Option Value} {base : Heap}
/-! ### check_size, of any body -/
def spSizeG (K : PySem.W.Frag) : Sp := fun vs H Q E => match vs with
  | [b] => ∃ (l : List Stm), Dp K H b (.tuple (encB false l)) ∧ dB l ≤ 8 ∧ cB l ≤ 1000 ∧ (cB l ≤ 60 → dB l ≤ 4 → ∀ H', Same H H' → Q .non H') ∧
    (60 < cB l → ∀ H', Same H H' → E (.ref (He.ga K "TooLong")) none H') ∧ (cB l ≤ 60 → 4 < dB l → ∀ H', Same H H' → E (.ref (He.ga K "TooDeep")) none H')
  | _ => False
theorem cg_check_size (T : Top w K mg) : Cal P w K mg base (L2.CX P w) 12 "check_size" (spSizeG K) := by
  refine cal_X (f_check_size T) (g_check_size T) sc_check_size (fun _ _ _ _ _ _ us hl => match us, hl with | [_], _ => rfl) (fun vs H Q E h => match vs, h with | [_], _ => rfl) (fun cdv A outer s H vs Q E hr h => ?_)
  match vs, h with
  | [b], h =>
  obtain ⟨l, hb, hd, hc, q, qL, qD⟩ := h
  refine ⟨_, (pss_cons (ps_if (pt_cmpR op_gt (pcb (z_len T) call_len_seq boot_len (pa_cons (pc (c_all_statements T 8) hr (pa_cons (pv 0) (pa_cons (pe_tup pa_nil) pa_nil))) pa_nil)) (pglI (i_MOST_programs T)) (nomark _))
      (pss_one (ps_raise rfl (takes_of rfl rfl rfl rfl) (pmk_exc0 (xc_TooLong T) (g_TooLong T))))
      pss_nil)
    (pss_one (ps_if (pt_cmpR op_gt (pc (c_depth_of T 8) hr (pa_cons (pv 0) pa_nil)) (pglI (i_DEEPEST T)) (nomark _))
      (pss_one (ps_raise rfl (takes_of rfl rfl rfl rfl) (pmk_exc0 (xc_TooDeep T) (g_TooDeep T))))
      pss_nil))), ?_⟩
  refine ⟨_, rfl, (by show 0 ≤ sizeLine; decide), fun p hp => ?_⟩
  have s1 : Same H (upd H p (.tup [])) := smNew1 hp _
  refine ⟨l, [], Dp.keep s1 hb, path0 (SqT.of upd_same), hd, by omega, by show 0 + 2 * 8 ≤ 1000; omega, fun r H1 ys e1 hr1 hr2 hys => ?_⟩
  have hl : ys.length = cB l := by rw [DpAll.len hys, allD_len, aB_len]
  have s2 : Same H H1 := s1.trans e1
  refine ⟨r, ys, rfl, .inl (SqL.of hr2), _, _, rfl, rfl, _, rfl, ?_⟩
  by_cases c1 : 60 < cB l
  · exact ifT (decide_eq_true (by show (60 : Int) < (ys.length : Nat); omega)) (qL c1 H1 s2)
  refine ifF (decide_eq_false (by show ¬ ((60 : Int) < (ys.length : Nat)); omega)) ?_
  refine ⟨_, rfl, l, Dp.keep s2 hb, hd, fun H2 s3 => ?_⟩
  refine ⟨_, _, rfl, rfl, _, rfl, ?_⟩
  by_cases c2 : 4 < dB l
  · exact ifT (decide_eq_true (by show (4 : Int) < (dB l : Nat); omega)) (qD (by omega) c2 H2 (s2.trans s3))
  refine ifF (decide_eq_false (by show ¬ ((4 : Int) < (dB l : Nat)); omega)) ?_
  exact q (by omega) (by omega) H2 (s2.trans s3)
/-! ### Program, of any body -/
def spInitG (K : PySem.W.Frag) : Sp := fun vs H Q E => match vs with
  | [x, b] => ∃ a dx, x = .ref a ∧ H a = some (.ins (He.ga K "Program") dx []) ∧
    (((∀ H', Same H H' → ∃ ty, TyX K H' b ty ∧ PySem.W.kitAny K ty [.type "list", .type "tuple"] = some false) ∧ ∀ d H' v, H' d = some (.xd [("path", v)]) → Off a H H' → Dp K H' v (pathD []) → E (.ref (He.ga K "BadStatement")) (some d) H') ∨
     (∃ fl c, Dp K H b (seqD fl (Bad.enc c)) ∧ c.ok ∧ c.deep ≤ 8 ∧ ∀ d H' v, H' d = some (.xd [("path", v)]) → Off a H H' → Dp K H' v (pathD (c.path [])) → E (.ref (He.ga K "BadStatement")) (some d) H') ∨
     (∃ fl l, Dp K H b (seqD fl (encB true l)) ∧ wB l = true ∧ dB l ≤ 8 ∧ cB l ≤ 1000 ∧ (cB l ≤ 60 → dB l ≤ 4 → ∀ H', Off a H H' → PrgAt K H' a l → Q .non H') ∧
       (60 < cB l → ∀ H', Off a H H' → E (.ref (He.ga K "TooLong")) none H') ∧ (cB l ≤ 60 → 4 < dB l → ∀ H', Off a H H' → E (.ref (He.ga K "TooDeep")) none H')))
  | _ => False
theorem cg_Program_init (T : Top w K mg) : Mak P w K mg base (L2.CX P w) 14 "Program" (He.ga K "Program") (spInitG K) := by
  refine mak_X (f_Program_init T) (mk_Program T) (g_Program T) sc_Program_init (fun _ _ _ _ _ _ us hl => match us, hl with | [_, _], _ => rfl) (fun vs H Q E h => match vs, h with | [_, _], _ => rfl) (fun cdv A outer s H vs Q E hr h => ?_)
  match vs, h with
  | [x, b], h =>
  obtain ⟨a, dx, rfl, ha, h⟩ := h
  refine ⟨_, (pss_cons (ps_if (pt_not (pt_val (pcb (z_isinstance T) call_isiT boot_isinstance (pa_cons (pv 1) (pa_cons (pe_tup (pa_cons (pty (z_list T) boot_list) (pa_cons (pty (z_tuple T) boot_tuple) pa_nil))) pa_nil)))))
      (pss_one (ps_raiseX (takes_of rfl rfl rfl rfl) (c_BadStatement_init T) hr (pa_cons (pe_tup pa_nil) pa_nil)))
      pss_nil)
    (pss_cons (ps_expr (pcX (takes_of rfl rfl rfl rfl) (c_checkG T 8) hr (pa_cons (pv 1) (pa_cons (pe_tup pa_nil) pa_nil))))
    (pss_cons (ps_fld (pv 0) (pc (c_as_tuples T 8) hr (pa_cons (pv 1) pa_nil)) rfl)
    (pss_one (ps_expr (pcX (takes_of rfl rfl rfl rfl) (cg_check_size T) hr (pa_cons (pe_fld (pv 0) rfl) pa_nil))))))), ?_⟩
  refine ⟨_, rfl, (by show 2 ≤ sizeLine; decide), fun p hp => ?_⟩
  have s1 : Same H (upd H p (.tup [.ty "list", .ty "tuple"])) := smNew1 hp _
  rcases h with ⟨hty, q⟩ | h
  · obtain ⟨ty, ht, hk⟩ := hty _ s1
    refine ⟨_, p, _, ty, _, false, rfl, upd_same, .cons (.ty _) (.cons (.ty _) .nil), ht, hk, _, rfl, ifT rfl ?_⟩
    refine ⟨(by show 0 ≤ sizeLine; decide), fun p2 hp2 => raise1 fun d H' nd e hd => ?_⟩
    have s2 := (smNew s1 hp2 (.tup [])).trans e
    exact q d H' _ hd (fun b u _ hb => s2 _ _ hb) (Dp.keep e (path0 (SqT.of upd_same)))
  rcases h with ⟨fl, c, hb, hc, hcd, q⟩ | ⟨fl, l, hb, hw, hd, hc, q, qL, qD⟩
  · obtain ⟨b, xs, rfl, hb1, hb2⟩ := seqD_inv hb
    obtain ⟨ty, ht, hk⟩ := ty_seq hb1 s1
    refine ⟨_, p, _, ty, _, true, rfl, upd_same, .cons (.ty _) (.cons (.ty _) .nil), ht, hk, _, rfl, ifF rfl ?_⟩
    refine ⟨_, rfl, (by show 0 ≤ sizeLine; decide), fun p2 hp2 => ?_⟩
    have s2 := smNew s1 hp2 (.tup [])
    exact ⟨fl, [], path0 (SqT.of upd_same), by show 0 + 2 * 8 ≤ 1000; omega, .inr ⟨c, Dp.keep s2 hb, hc, hcd, fun d H' v nd e hd hv => q d H' v hd (fun b u _ hb => e _ _ (s2 _ _ hb)) hv⟩⟩
  obtain ⟨b, xs, rfl, hb1, hb2⟩ := seqD_inv hb
  obtain ⟨ty, ht, hk⟩ := ty_seq hb1 s1
  refine ⟨_, p, _, ty, _, true, rfl, upd_same, .cons (.ty _) (.cons (.ty _) .nil), ht, hk, _, rfl, ifF rfl ?_⟩
  refine ⟨_, rfl, (by show 0 ≤ sizeLine; decide), fun p2 hp2 => ?_⟩
  have s2 := smNew s1 hp2 (.tup [])
  refine ⟨fl, [], path0 (SqT.of upd_same), by show 0 + 2 * 8 ≤ 1000; omega, .inl ⟨l, Dp.keep s2 hb, hw, hd, fun H3 s3 => ?_⟩⟩
  have s4 : Same H H3 := s2.trans s3
  refine ⟨_, rfl, fl, true, l, Dp.keep s4 hb, hd, hc, fun v H4 s5 hv => ?_⟩
  have s6 := s4.trans s5
  have ha4 := s6 _ _ ha
  refine ⟨_, rfl, a, _, dx, [], rfl, ha4, k_Program T, na_Program_body T, by decide, ?_⟩
  have ts : TS K H4 (upd H4 a (.ins (He.ga K "Program") dx [("body", v)])) := ts_upd _ ha4 trivial
  have hv5 := dp_ts ts hv (noL_tuple (noL_encB l))
  have off : ∀ {H6}, Same (upd H4 a (.ins (He.ga K "Program") dx [("body", v)])) H6 → Off a H H6 := fun s7 b u hb hu => s7 _ _ (by rw [upd_ne hb]; exact s6 _ _ hu)
  refine ⟨_, rfl, a, _, dx, _, v, rfl, upd_same, k_Program T, na_Program_body T, rfl, l, hv5, hd, hc, fun h1 h2 H6 s7 => ?_, fun h1 H6 s7 => qL h1 H6 (off s7), fun h1 h2 H6 s7 => qD h1 h2 H6 (off s7)⟩
  exact q h1 h2 H6 (off s7) ⟨dx, v, s7 _ _ upd_same, Dp.keep s7 hv5⟩
end
end RM

set_option Elab.async false
set_option linter.all false
set_option maxRecDepth 100000
set_option maxHeartbeats 2000000
set_option pp.maxSteps 600
set_option pp.deepTerms false
namespace RM
open PySem PySem.Spec PyProof.Rows L2
section
variable {P : Program} {w : World} {K : PySem.W.Frag} {mg : Str → Option Value} {base : Heap}
theorem sc_BadValue_init : FnScope ["self", "value"] ["self", "value"] (defScope s_BadValue_init) := ⟨rfl, rfl, rfl, by decide +kernel, rfl, by decide +kernel, by decide +kernel⟩
theorem c_BadValue_init (T : Top w K mg) : Exo P w K mg base 1 "BadValue" (He.ga K "BadValue") (spExo (He.ga K "BadValue") "value") := by
  refine exo_0 (f_BadValue_init T) (oexB_ok (oex_BadValue T)) (me_BadValue_init T) (g_BadValue T) sc_BadValue_init (fun _ _ _ _ _ _ us hl => match us, hl with | [_, _], _ => rfl) (fun vs H Q E h => match vs, h with | [_, _], _ => rfl) (fun cdv A outer s H vs Q E hr h => ?_)
  match vs, h with
  | [x, v], h =>
  obtain ⟨a, rfl, ha, q⟩ := h
  refine ⟨_, (pss_one (ps_ost (pv 0) (pv 1))), ?_⟩
  exact ⟨_, rfl, _, rfl, a, _, rfl, oexB_ok (oex_BadValue T), na_BadValue_value T, .inl ⟨ha, fun dx h1 h2 => q dx h1 h2⟩⟩
/-! ### [] = -/
def wrongV (K : PySem.W.Frag) (H : Hp) (z : V) : Prop := (∃ n, z = .int n ∧ isValue n = false) ∨ ∃ d, Dp K H z d ∧ noInt d = true
def spSetS (K : PySem.W.Frag) : Sp := fun vs H Q E => match vs with
  | [x, y, z] => ∃ a dx p m k, x = .ref a ∧ y = .str k ∧ H a = some (.ins (He.ga K "Surroundings") dx [("now", .ref p)]) ∧ H p = some (.dK (mK m)) ∧ m.length ≤ 4 ∧
    (k ∉ wKeys m → ∀ e H', Same H H' → H' e = some (.xd [("key", .str k)]) → E (.ref (He.ga K "NoKey")) (some e) H') ∧
    (k ∈ wKeys m → (∃ n, z = .int n ∧ isValue n = true ∧ Q .non (upd H p (.dK (mK (wPut m k n))))) ∨ (wrongV K H z ∧ ∀ e H', Same H H' → H' e = some (.xd [("value", z)]) → E (.ref (He.ga K "BadValue")) (some e) H'))
  | _ => False
theorem sc_Surroundings_setitem : FnScope ["self", "key", "value"] ["self", "key", "value"] (defScope s_Surroundings_setitem) := ⟨rfl, rfl, rfl, by decide +kernel, rfl, by decide +kernel, by decide +kernel⟩
theorem o_Surroundings_setitem (T : Top w K mg) : OwnC P w K mg base (L2.CX P w) 3 (He.ga K "Surroundings") "__setitem__" (spSetS K) := by
  refine own_CX (f_Surroundings_setitem T) (spc_Surroundings_setitem T) sc_Surroundings_setitem (fun _ _ _ _ _ _ us hl => match us, hl with | [_, _, _], _ => rfl) (fun vs H Q E h => match vs, h with | [_, _, _], _ => rfl) (fun cdv A outer s H vs Q E hr h => ?_)
  match vs, h with
  | [x, y, z], h =>
  obtain ⟨a, dx, p, m, k, rfl, rfl, ha, hp, l4, qN, q⟩ := h
  refine ⟨_, (pss_cons (ps_if (pt_cmp (pc_dnotin (hu_of hr) (pv 1) (pe_fld (pv 0) rfl)))
      (pss_one (ps_raiseX (takes_of rfl rfl rfl rfl) (c_NoKey_init T) hr (pa_cons (pv 1) pa_nil)))
      pss_nil)
    (pss_cons (ps_if (pt_not (pt_val (pc (cg_is_value T) hr (pa_cons (pv 2) pa_nil))))
      (pss_one (ps_raiseX (takes_of rfl rfl rfl rfl) (c_BadValue_init T) hr (pa_cons (pv 2) pa_nil)))
      pss_nil)
    (pss_one (ps_dput (hu_of hr) (pe_fld (pv 0) rfl) (pv 1) (pv 2) rfl)))), ?_⟩
  refine ⟨_, rfl, _, rfl, a, _, dx, _, _, rfl, ha, k_Surroundings T, na_Surroundings_now T, rfl, p, _, rfl, .inl ⟨mK m, .inr k, .of hp, rfl, rfl⟩, _, rfl, ?_⟩
  rw [valV_get]
  cases e : wGet m k with
  | none =>
    refine ifT rfl ⟨_, rfl, ?_⟩
    exact raise1 fun d H' _ e' hd => qN (wGet_none.mp e) d H' e' hd
  | some n0 =>
    have km : k ∈ wKeys m := List.mem_map.mpr ⟨(k, n0), wGet_some e, rfl⟩
    refine ifF rfl ?_
    rcases q km with ⟨n, rfl, hn, q⟩ | ⟨wr, qB⟩
    · refine ⟨_, rfl, .inl ⟨n, rfl, ?_⟩⟩
      rw [hn]
      refine ⟨_, rfl, ifF rfl ?_⟩
      refine ⟨_, rfl, _, rfl, a, _, dx, _, _, rfl, ha, k_Surroundings T, na_Surroundings_now T, rfl, _, rfl, p, _, rfl, .inl ⟨mK m, .inr k, hp, rfl, small1000 (by show (m.map _).length ≤ 1000; rw [List.length_map]; omega), rfl⟩, ?_⟩
      rw [putK_w]
      exact q
    · rcases wr with ⟨n, rfl, hn⟩ | ⟨d, hd, hn⟩
      · refine ⟨_, rfl, .inl ⟨n, rfl, ?_⟩⟩
        rw [hn]
        refine ⟨_, rfl, ifT rfl ⟨_, rfl, ?_⟩⟩
        exact raise1 fun d H' _ e' hd => qB d H' e' hd
      · refine ⟨_, rfl, .inr ⟨d, hd, hn, ?_⟩⟩
        refine ⟨_, rfl, ifT rfl ⟨_, rfl, ?_⟩⟩
        exact raise1 fun d H' _ e' hd => qB d H' e' hd
end
end RM

set_option Elab.async false
set_option linter.all false
set_option maxRecDepth 100000
set_option maxHeartbeats 2000000
namespace RM
open PySem PySem.Spec PyProof.Rows L2
theorem flats_flat (s : Stm) : ∀ d ∈ s.flats, (∃ z, d = .str z) ∨ ∃ n, d = .int n := by
  cases s <;> simp [Stm.flats]
theorem filterMap_at2 {α β : Type} (l : List α) (f : α → Option β) : (List.range l.length).filterMap (fun i => (l[i]?).bind f) = l.filterMap f := by
  have := congrArg (List.filterMap f) (some_range l)
  rw [List.filterMap_filterMap] at this
  exact this
/-- the items behind the first k -/
theorem bodies_from {α β : Type} (k : Nat) (l : List α) (g : α → β) : (List.range (k + l.length)).filterMap (fun i => if i < k then none else (l[i - k]?).map g) = l.map g := by
  have e : ∀ n, n ≤ l.length → (List.range (k + n)).filterMap (fun i => if i < k then none else (l[i - k]?).map g) = (l.take n).map g := by
    intro n
    induction n with
    | zero =>
      intro _
      rw [Nat.add_zero, List.take_zero]
      show _ = []
      rw [List.filterMap_eq_nil_iff]
      intro i hi
      rw [if_pos (List.mem_range.mp hi)]
    | succ n ih =>
      intro hn
      have hl : n < l.length := by omega
      rw [show k + (n + 1) = (k + n) + 1 from rfl, List.range_succ, List.filterMap_append, ih (by omega), take_more (List.getElem?_eq_getElem hl), List.map_append, List.filterMap_cons, if_neg (by omega), Nat.add_sub_cancel_left, List.getElem?_eq_getElem hl]
      rfl
  rw [e _ (Nat.le_refl _), List.take_length]
/-- the i-th item of a statement behind its word -/
theorem item_at (s : Stm) (f : List Stm → PyData) {i : Nat} {d : PyData} (h : (s.flats ++ s.bodies.map f)[i]? = some d) :
    (i < s.flats.length ∧ ((∃ z, d = .str z) ∨ ∃ n, d = .int n)) ∨ (¬ i < s.flats.length ∧ ∃ b, b ∈ s.bodies ∧ s.bodies[i - s.flats.length]? = some b ∧ d = f b) := by
  by_cases hi : i < s.flats.length
  · rw [List.getElem?_append_left hi] at h
    exact .inl ⟨hi, flats_flat s d (List.mem_of_getElem? h)⟩
  · rw [List.getElem?_append_right (by omega), List.getElem?_map] at h
    obtain ⟨b, hb, e⟩ := Option.map_eq_some_iff.mp h
    exact .inr ⟨hi, b, List.mem_of_getElem? hb, hb, e.symm⟩
/-! ### sizes, prints -/
mutual
/-- how many prints are counted -/
def pS : Stm → Nat
  | .print _ => 1
  | .ite _ _ a b => max (pB a) (pB b)
  | .same _ _ a b => max (pB a) (pB b)
  | .rep n a => n.toNat * pB a
  | _ => 0
def pB : List Stm → Nat
  | [] => 0
  | s :: r => pS s + pB r
end
def cBs : List (List Stm) → Nat
  | [] => 0
  | b :: r => cB b + cBs r
theorem cS_eq (s : Stm) : cS s = 1 + cBs s.bodies := by
  cases s <;> simp [cS, Stm.bodies, cBs] <;> omega
theorem cBs_sum : ∀ l : List (List Stm), ((l.map fun b => ((cB b : Nat) : Int)).sum) = ((cBs l : Nat) : Int)
  | [] => rfl
  | b :: r => by
    rw [List.map_cons, List.sum_cons, cBs_sum r, cBs]
    omega
theorem pB_app : ∀ (l m : List Stm), pB (l ++ m) = pB l + pB m
  | [], m => by simp [pB]
  | s :: r, m => by rw [List.cons_append, pB, pB, pB_app r m, Nat.add_assoc]
theorem cB_app' : ∀ (l m : List Stm), cB (l ++ m) = cB l + cB m
  | [], m => by simp [cB]
  | s :: r, m => by rw [List.cons_append, cB, cB, cB_app' r m, Nat.add_assoc]
theorem cB_take {l : List Stm} {i : Nat} {s : Stm} (h : l[i]? = some s) : cB (l.take (i + 1)) = cB (l.take i) + cS s := by
  rw [take_more h, cB_app']
  show _ + (cS s + 0) = _
  omega
theorem pB_take {l : List Stm} {i : Nat} {s : Stm} (h : l[i]? = some s) : pB (l.take (i + 1)) = pB (l.take i) + pS s := by
  rw [take_more h, pB_app]
  show _ + (pS s + 0) = _
  omega
end RM

set_option Elab.async false
set_option linter.all false
set_option maxRecDepth 100000
set_option maxHeartbeats 2000000
namespace RM
open PySem PySem.Spec PyProof.Rows L2
mutual
/-- every key that is read is among ks -/
def kS (ks : List Str) : Stm → Bool
  | .read _ k => decide (k ∈ ks) | .ite _ _ a b => kB ks a && kB ks b | .same _ _ a b => kB ks a && kB ks b | .rep _ a => kB ks a | _ => true
def kB (ks : List Str) : List Stm → Bool
  | [] => true
  | s :: r => kS ks s && kB ks r
end
end RM

set_option Elab.async false
set_option linter.all false
set_option maxRecDepth 100000
set_option maxHeartbeats 2000000
/-! what a run computes, in plain Lean -/
namespace RM
open PySem PySem.Spec PyProof.Rows L2
structure RS where
  held : WM
  now : WM
  printed : List Int
  went : List (List Int)
  seen : List (List Int × Str × Int × Int)
  waits : Nat
  stop : Bool
structure RE where
  cs : List WM
  plan : List (List Int)
def chg (cs : List WM) (n : Int) : WM := (cs[n.toNat]?).getD []
def stepW (cs : List WM) (s : RS) (n : Int) : RS := { s with now := wOver s.now (chg cs n), went := s.went ++ [wVals (wOver s.now (chg cs n))] }
def incW (s : RS) : RS := { s with waits := s.waits + 1 }
def itemAt (e : RE) (s : RS) : List Int := (e.plan[s.waits]?).getD []
def waitS (e : RE) (s : RS) : RS := incW ((itemAt e s).foldl (stepW e.cs) s)
def vOf (s : RS) (v : Str) : Int := (wGet s.held v).getD 0
def nOf (s : RS) (k : Str) : Int := (wGet s.now k).getD 0
def holdS (s : RS) (v : Str) (n : Int) : RS := { s with held := wPut s.held v n }
def tellS (s : RS) (n : Int) : RS := { s with printed := s.printed ++ [n] }
def seeS (s : RS) (p : List Int) (k : Str) : RS := { s with seen := s.seen ++ [(p, k, nOf s k, ((s.went.length : Nat) : Int) - 1)] }
def stopS (s : RS) : RS := { s with stop := true }
def rept {α : Type} (f : α → α) : Nat → α → α
  | 0, s => s
  | n + 1, s => f (rept f n s)
mutual
def goS (e : RE) (p : List Int) : Stm → RS → RS
  | .read v k => fun s => seeS (holdS s v (nOf s k)) p k
  | .set v n => fun s => holdS s v n
  | .copy v u => fun s => holdS s v (vOf s u)
  | .print v => fun s => tellS s (vOf s v)
  | .say n => fun s => tellS s n
  | .wait => fun s => waitS e s
  | .ite v n a b => fun s => if vOf s v = n then goB e (p ++ [0]) 0 a s else goB e (p ++ [1]) 0 b s
  | .same v u a b => fun s => if vOf s v = vOf s u then goB e (p ++ [0]) 0 a s else goB e (p ++ [1]) 0 b s
  | .rep n a => fun s => rept (goB e (p ++ [0]) 0 a) n.toNat s
  | .stop => fun s => stopS s
def goB (e : RE) (p : List Int) (i : Nat) : List Stm → RS → RS
  | [] => fun s => s
  | st :: r => fun s => goB e p (i + 1) r (if s.stop = true then s else goS e (p ++ [(i : Int)]) st s)
end
theorem goB_app (e : RE) (p : List Int) : ∀ (l m : List Stm) (i : Nat) (s : RS), goB e p i (l ++ m) s = goB e p (i + l.length) m (goB e p i l s)
  | [], m, i, s => by simp [goB]
  | st :: r, m, i, s => by
    rw [List.cons_append, goB, goB]
    show goB e p (i + 1) (r ++ m) _ = goB e p (i + (r.length + 1)) m _
    rw [goB_app e p r m (i + 1)]
    rw [show i + 1 + r.length = i + (r.length + 1) by omega]
theorem goB_take {e : RE} {p : List Int} {l : List Stm} {i : Nat} {st : Stm} (h : l[i]? = some st) (s : RS) :
    goB e p 0 (l.take (i + 1)) s = if (goB e p 0 (l.take i) s).stop = true then goB e p 0 (l.take i) s else goS e (p ++ [(i : Int)]) st (goB e p 0 (l.take i) s) := by
  have hi := (List.getElem?_eq_some_iff.mp h).1
  rw [take_more h, goB_app, goB, goB, List.length_take, Nat.min_eq_left (by omega), Nat.zero_add]
theorem goB_stop {e : RE} {p : List Int} : ∀ (l : List Stm) (i : Nat) {s : RS}, s.stop = true → goB e p i l s = s
  | [], _, _, _ => by rw [goB]
  | st :: r, i, s, h => by
    rw [goB]
    show goB e p (i + 1) r (if s.stop = true then s else _) = s
    rw [if_pos h]
    exact goB_stop r (i + 1) h
theorem rept_stop {f : RS → RS} (hf : ∀ s : RS, s.stop = true → f s = s) {s : RS} (h : s.stop = true) : ∀ n, rept f n s = s
  | 0 => rfl
  | n + 1 => by rw [rept, rept_stop hf h n, hf s h]
/-! ### how many statements are executed at most -/
mutual
def nS : Stm → Nat
  | .ite _ _ a b => 1 + max (nB a) (nB b)
  | .same _ _ a b => 1 + max (nB a) (nB b)
  | .rep n a => 1 + n.toNat * nB a
  | _ => 1
def nB : List Stm → Nat
  | [] => 0
  | s :: r => nS s + nB r
end
theorem nB_app : ∀ (l m : List Stm), nB (l ++ m) = nB l + nB m
  | [], m => by simp [nB]
  | s :: r, m => by rw [List.cons_append, nB, nB, nB_app r m, Nat.add_assoc]
theorem nB_take {l : List Stm} {i : Nat} {s : Stm} (h : l[i]? = some s) : nB (l.take (i + 1)) = nB (l.take i) + nS s := by
  rw [take_more h, nB_app]
  show _ + (nS s + 0) = _
  omega
theorem nB_le {l : List Stm} (i : Nat) : nB (l.take i) ≤ nB l := by
  have := nB_app (l.take i) (l.drop i)
  rw [List.take_append_drop] at this
  omega
/-- what has been gathered -/
def sz (s : RS) : Nat := s.printed.length + s.seen.length + s.held.length
theorem len_put (m : WM) (k : Str) (n : Int) : (wPut m k n).length ≤ m.length + 1 := by
  unfold wPut
  split
  · rw [List.length_map]; omega
  · rw [List.length_append]; exact Nat.le_refl _
theorem sz_fold (cs : List WM) : ∀ (it : List Int) (s : RS), sz (it.foldl (stepW cs) s) = sz s
  | [], _ => rfl
  | n :: r, s => (sz_fold cs r (stepW cs s n)).trans rfl
theorem fold_waits (cs : List WM) : ∀ (it : List Int) (s : RS), (it.foldl (stepW cs) s).waits = s.waits
  | [], _ => rfl
  | n :: r, s => (fold_waits cs r (stepW cs s n)).trans rfl
theorem fold_went (cs : List WM) : ∀ (it : List Int) (s : RS), (it.foldl (stepW cs) s).went.length = s.went.length + it.length
  | [], _ => rfl
  | n :: r, s => by
    rw [List.foldl_cons, fold_went cs r (stepW cs s n)]
    show (s.went ++ [_]).length + r.length = _
    rw [List.length_append, List.length_cons, List.length_cons, List.length_nil]
    omega
theorem fold_take {cs : List WM} {it : List Int} {i : Nat} {n : Int} (h : it[i]? = some n) (s : RS) : (it.take (i + 1)).foldl (stepW cs) s = stepW cs ((it.take i).foldl (stepW cs) s) n := by
  rw [take_more h, List.foldl_append]
  rfl
mutual
theorem sz_S (e : RE) : ∀ (st : Stm) (p : List Int) (s : RS), sz (goS e p st s) ≤ sz s + 2 * nS st
  | .read v k, p, s => by
    have := len_put s.held v (nOf s k)
    simp only [goS, nS, sz, seeS, holdS, List.length_append, List.length_cons, List.length_nil]
    omega
  | .set v n, p, s => by
    have := len_put s.held v n
    simp only [goS, nS, sz, holdS]
    omega
  | .copy v u, p, s => by
    have := len_put s.held v (vOf s u)
    simp only [goS, nS, sz, holdS]
    omega
  | .print v, p, s => by
    simp only [goS, nS, sz, tellS, List.length_append, List.length_cons, List.length_nil]
    omega
  | .say v, p, s => by
    simp only [goS, nS, sz, tellS, List.length_append, List.length_cons, List.length_nil]
    omega
  | .wait, p, s => by
    rw [goS]
    show sz ((itemAt e s).foldl (stepW e.cs) s) ≤ _
    rw [sz_fold]
    omega
  | .stop, p, s => by
    rw [goS]
    exact Nat.le_add_right _ _
  | .ite v n a b, p, s => by
    have h1 := sz_B e a (p ++ [0]) 0 s
    have h2 := sz_B e b (p ++ [1]) 0 s
    rw [goS, nS]
    show sz (if _ then _ else _) ≤ _
    split <;> omega
  | .same v u a b, p, s => by
    have h1 := sz_B e a (p ++ [0]) 0 s
    have h2 := sz_B e b (p ++ [1]) 0 s
    rw [goS, nS]
    show sz (if _ then _ else _) ≤ _
    split <;> omega
  | .rep n a, p, s => by
    rw [goS, nS]
    have key : ∀ m, sz (rept (goB e (p ++ [0]) 0 a) m s) ≤ sz s + 2 * (m * nB a) := by
      intro m
      induction m with
      | zero => rw [Nat.zero_mul]; exact Nat.le_refl _
      | succ m ih =>
        have := sz_B e a (p ++ [0]) 0 (rept (goB e (p ++ [0]) 0 a) m s)
        have e1 : (m + 1) * nB a = m * nB a + nB a := Nat.succ_mul ..
        rw [rept]
        omega
    have := key n.toNat
    show sz (rept (goB e (p ++ [0]) 0 a) n.toNat s) ≤ _
    omega
theorem sz_B (e : RE) : ∀ (l : List Stm) (p : List Int) (i : Nat) (s : RS), sz (goB e p i l s) ≤ sz s + 2 * nB l
  | [], p, i, s => by rw [goB]; exact Nat.le_add_right _ _
  | st :: r, p, i, s => by
    rw [goB, nB]
    by_cases h : s.stop = true
    · have := sz_B e r p (i + 1) s
      show sz (goB e p (i + 1) r (if s.stop = true then s else _)) ≤ _
      rw [if_pos h]
      omega
    · have h1 := sz_S e st (p ++ [(i : Int)]) s
      have h2 := sz_B e r p (i + 1) (goS e (p ++ [(i : Int)]) st s)
      show sz (goB e p (i + 1) r (if s.stop = true then s else _)) ≤ _
      rw [if_neg h]
      omega
end
theorem sz_rept (e : RE) (a : List Stm) (p : List Int) (i : Nat) (s : RS) : ∀ m, sz (rept (goB e p i a) m s) ≤ sz s + 2 * (m * nB a)
  | 0 => by rw [Nat.zero_mul]; exact Nat.le_refl _
  | m + 1 => by
    have h := sz_rept e a p i s m
    have := sz_B e a p i (rept (goB e p i a) m s)
    have e1 : (m + 1) * nB a = m * nB a + nB a := Nat.succ_mul ..
    rw [rept]
    omega
mutual
theorem nS_le : ∀ (st : Stm), wS st = true → nS st ≤ cS st * 3 ^ dS st
  | .read _ _, _ => by simp [nS, cS, dS]
  | .set _ _, _ => by simp [nS, cS, dS]
  | .copy _ _, _ => by simp [nS, cS, dS]
  | .print _, _ => by simp [nS, cS, dS]
  | .say _, _ => by simp [nS, cS, dS]
  | .wait, _ => by simp [nS, cS, dS]
  | .stop, _ => by simp [nS, cS, dS]
  | .ite v n a b, h => by
    rw [wS, Bool.and_eq_true, Bool.and_eq_true (wB a)] at h
    have ha := nB_le3 a h.2.1
    have hb := nB_le3 b h.2.2
    rw [nS, cS, dS]
    have pa : 3 ^ (dB a - 1) ≤ 3 ^ (max (dB a) (dB b)) := Nat.pow_le_pow_right (by decide) (by omega)
    have pb : 3 ^ (dB b - 1) ≤ 3 ^ (max (dB a) (dB b)) := Nat.pow_le_pow_right (by decide) (by omega)
    have p1 : 1 ≤ 3 ^ (max (dB a) (dB b)) := Nat.one_le_pow _ _ (by decide)
    have ha' := Nat.le_trans ha (Nat.mul_le_mul_left (cB a) pa)
    have hb' := Nat.le_trans hb (Nat.mul_le_mul_left (cB b) pb)
    rw [Nat.add_mul, Nat.add_mul, Nat.one_mul]
    omega
  | .same v n a b, h => by
    rw [wS, Bool.and_eq_true, Bool.and_eq_true (wB a)] at h
    have ha := nB_le3 a h.2.1
    have hb := nB_le3 b h.2.2
    rw [nS, cS, dS]
    have pa : 3 ^ (dB a - 1) ≤ 3 ^ (max (dB a) (dB b)) := Nat.pow_le_pow_right (by decide) (by omega)
    have pb : 3 ^ (dB b - 1) ≤ 3 ^ (max (dB a) (dB b)) := Nat.pow_le_pow_right (by decide) (by omega)
    have p1 : 1 ≤ 3 ^ (max (dB a) (dB b)) := Nat.one_le_pow _ _ (by decide)
    have ha' := Nat.le_trans ha (Nat.mul_le_mul_left (cB a) pa)
    have hb' := Nat.le_trans hb (Nat.mul_le_mul_left (cB b) pb)
    rw [Nat.add_mul, Nat.add_mul, Nat.one_mul]
    omega
  | .rep n a, h => by
    rw [wS, Bool.and_eq_true, Bool.and_eq_true] at h
    have ha := nB_le3 a h.2
    have hn := of_decide_eq_true h.1.2
    rw [nS, cS, dS]
    have d1 := dB_one a
    obtain ⟨d, hd⟩ : ∃ d, dB a = d + 1 := ⟨dB a - 1, by omega⟩
    rw [hd, Nat.add_sub_cancel] at ha
    rw [hd]
    have p1 : 1 ≤ 3 ^ (d + 1) := Nat.one_le_pow _ _ (by decide)
    have e1 : 3 ^ (d + 1) = 3 ^ d * 3 := Nat.pow_succ ..
    have m1 : n.toNat * nB a ≤ 3 * nB a := Nat.mul_le_mul_right _ (by omega)
    have m2 : 3 * nB a ≤ 3 * (cB a * 3 ^ d) := Nat.mul_le_mul_left _ ha
    have e2 : cB a * 3 ^ (d + 1) = 3 * (cB a * 3 ^ d) := by rw [e1, ← Nat.mul_assoc, Nat.mul_comm _ 3]
    rw [Nat.add_mul, Nat.one_mul, e2]
    omega
theorem nB_le3 : ∀ (l : List Stm), wB l = true → nB l ≤ cB l * 3 ^ (dB l - 1)
  | [], _ => by simp [nB]
  | s :: r, h => by
    rw [wB, Bool.and_eq_true] at h
    have hs := nS_le s h.1
    have hr := nB_le3 r h.2
    have d1 := dB_one r
    rw [nB, cB, dB]
    have ps : 3 ^ dS s ≤ 3 ^ (max (dS s + 1) (dB r) - 1) := Nat.pow_le_pow_right (by decide) (by omega)
    have pr : 3 ^ (dB r - 1) ≤ 3 ^ (max (dS s + 1) (dB r) - 1) := Nat.pow_le_pow_right (by decide) (by omega)
    have hs' := Nat.le_trans hs (Nat.mul_le_mul_left (cS s) ps)
    have hr' := Nat.le_trans hr (Nat.mul_le_mul_left (cB r) pr)
    rw [Nat.add_mul]
    omega
end
theorem nB_most {l : List Stm} (w : wB l = true) (hd : dB l ≤ 4) (hc : cB l ≤ 60) : nB l ≤ 1620 := by
  have h := nB_le3 l w
  have p : 3 ^ (dB l - 1) ≤ 3 ^ 3 := Nat.pow_le_pow_right (by decide) (by omega)
  have := Nat.mul_le_mul hc p
  omega
/-! ### what a wait does -/
/-- all is as it should be: the keys, and room for the moments to come -/
structure ROk (e : RE) (ks : List Str) (s : RS) : Prop where
  now : okM s.now
  keys : wKeys s.now = ks
  one : 1 ≤ s.went.length
  room : s.went.length + (e.plan.drop s.waits).flatten.length ≤ 1000
/-- the surroundings' keys, the changes, the schedule -/
structure EOk (e : RE) (ks : List Str) : Prop where
  cs : ∀ g ∈ e.cs, okM g ∧ ∀ k ∈ wKeys g, k ∈ ks
  plan : ∀ it ∈ e.plan, ∀ n ∈ it, 0 ≤ n ∧ n < e.cs.length
  srt : sortedS ks = true
  l1 : 1 ≤ ks.length
  l4 : ks.length ≤ 4
theorem ROk.of {e : RE} {ks : List Str} {s t : RS} (h : ROk e ks s) (a : t.now = s.now := by rfl) (b : t.went = s.went := by rfl) (c : t.waits = s.waits := by rfl) : ROk e ks t :=
  ⟨by rw [a]; exact h.now, by rw [a]; exact h.keys, by rw [b]; exact h.one, by rw [b, c]; exact h.room⟩
theorem chg_at {e : RE} {ks : List Str} (E : EOk e ks) {it : List Int} (hi : it ∈ e.plan) {n : Int} (hn : n ∈ it) : ∃ g, e.cs[n.toNat]? = some g ∧ chg e.cs n = g ∧ okM g ∧ ∀ k ∈ wKeys g, k ∈ ks := by
  have h := E.plan it hi n hn
  have hl : n.toNat < e.cs.length := by omega
  refine ⟨e.cs[n.toNat], List.getElem?_eq_getElem hl, by unfold chg; rw [List.getElem?_eq_getElem hl]; rfl, E.cs _ (List.getElem_mem hl)⟩
theorem drop_item {e : RE} {s : RS} {it : List Int} (h : e.plan[s.waits]? = some it) : (e.plan.drop s.waits).flatten = it ++ (e.plan.drop (s.waits + 1)).flatten := by
  have hl := (List.getElem?_eq_some_iff.mp h)
  rw [List.drop_eq_getElem_cons hl.1, hl.2, List.flatten_cons]
/-- the keys stay, whatever changes are made -/
theorem fold_ok {e : RE} {ks : List Str} (E : EOk e ks) {it : List Int} (hi : it ∈ e.plan) {s : RS} (h : okM s.now) (k : wKeys s.now = ks) :
    ∀ {jt : List Int}, (∀ n ∈ jt, n ∈ it) → okM (jt.foldl (stepW e.cs) s).now ∧ wKeys (jt.foldl (stepW e.cs) s).now = ks := by
  intro jt
  induction jt generalizing s with
  | nil => intro _; exact ⟨h, k⟩
  | cons n r ih =>
    intro hj
    obtain ⟨g, _, eg, og, sub⟩ := chg_at E hi (hj n List.mem_cons_self)
    refine ih (s := stepW e.cs s n) ?_ ?_ fun x hx => hj x (List.mem_cons_of_mem _ hx)
    · show okM (wOver s.now (chg e.cs n))
      rw [eg]
      exact okM_over h og.1
    · show wKeys (wOver s.now (chg e.cs n)) = ks
      rw [eg, wKeys_over (by rw [k]; exact sub), k]
theorem ROk.wait {e : RE} {ks : List Str} {s : RS} (E : EOk e ks) (h : ROk e ks s) : ROk e ks (waitS e s) := by
  unfold waitS itemAt
  cases hp : e.plan[s.waits]? with
  | none =>
    refine ⟨h.now, h.keys, h.one, ?_⟩
    show s.went.length + (e.plan.drop (s.waits + 1)).flatten.length ≤ 1000
    have := h.room
    rw [List.getElem?_eq_none_iff] at hp
    rw [List.drop_eq_nil_of_le (by omega)] at this ⊢
    exact this
  | some it =>
    have hi := List.mem_of_getElem? hp
    obtain ⟨o1, o2⟩ := fold_ok E hi h.now h.keys (jt := it) fun _ h => h
    have lw := fold_went e.cs it s
    refine ⟨o1, o2, ?_, ?_⟩
    · show 1 ≤ (it.foldl (stepW e.cs) s).went.length
      have := h.one
      omega
    · show (it.foldl (stepW e.cs) s).went.length + (e.plan.drop ((it.foldl (stepW e.cs) s).waits + 1)).flatten.length ≤ 1000
      have := h.room
      rw [drop_item hp, List.length_append] at this
      rw [fold_waits, lw]
      omega
mutual
theorem kS_of (ks : List Str) : ∀ (st : Stm) (p : List Int), (∀ q ∈ aS p st, ∀ v k, q.2 = .read v k → k ∈ ks) → kS ks st = true
  | .read v k, p, h => by
    rw [kS]
    exact decide_eq_true (h (p, .read v k) (by simp [aS]) v k rfl)
  | .set _ _, _, _ => by simp [kS]
  | .copy _ _, _, _ => by simp [kS]
  | .print _, _, _ => by simp [kS]
  | .say _, _, _ => by simp [kS]
  | .wait, _, _ => by simp [kS]
  | .stop, _, _ => by simp [kS]
  | .ite v n a b, p, h => by
    rw [kS, kB_of ks a (p ++ [0]) 0 fun q hq => h q (by simp [aS, hq]), kB_of ks b (p ++ [1]) 0 fun q hq => h q (by simp [aS, hq])]
    rfl
  | .same v n a b, p, h => by
    rw [kS, kB_of ks a (p ++ [0]) 0 fun q hq => h q (by simp [aS, hq]), kB_of ks b (p ++ [1]) 0 fun q hq => h q (by simp [aS, hq])]
    rfl
  | .rep n a, p, h => by
    rw [kS, kB_of ks a (p ++ [0]) 0 fun q hq => h q (by simp [aS, hq])]
theorem kB_of (ks : List Str) : ∀ (l : List Stm) (p : List Int) (i : Nat), (∀ q ∈ aB p i l, ∀ v k, q.2 = .read v k → k ∈ ks) → kB ks l = true
  | [], _, _, _ => by simp [kB]
  | s :: r, p, i, h => by
    rw [kB, kS_of ks s (p ++ [(i : Int)]) fun q hq => h q (by simp [aB, hq]), kB_of ks r p (i + 1) fun q hq => h q (by simp [aB, hq])]
    rfl
end
end RM

set_option Elab.async false
set_option linter.all false
set_option maxRecDepth 100000
set_option maxHeartbeats 2000000
/-! a runner and its outcome in the heap -/
namespace RM
open PySem PySem.Spec PyProof.Rows L2
def tg : HO → Nat
  | .ins _ _ fs => fs.length
  | .dK _ => 20
  | .lst _ => 21
  | _ => 22
theorem ne_tg {H : Hp} {a b : Addr} {x y : HO} (h1 : H a = some x) (h2 : H b = some y) (t : tg x ≠ tg y) : a ≠ b := fun z => by
  rw [z, h2] at h1
  injection h1 with e
  exact t (by rw [e])
theorem upd_tg {H : Hp} {a b : Addr} {x y o : HO} (h1 : H b = some x) (h2 : H a = some y) (t : tg x ≠ tg y) : upd H a o b = some x := by
  rw [upd_ne (ne_tg h1 h2 t)]
  exact h1
def seenD (q : List Int × Str × Int × Int) : PyData := .tuple [pathD q.1, .str q.2.1, .int q.2.2.1, .int q.2.2.2]
theorem noL_seenD (q : List Int × Str × Int × Int) : noL (seenD q) = true := by
  show (noL (pathD q.1) && (noL (.str q.2.1) && (noL (.int q.2.2.1) && (noL (.int q.2.2.2) && true)))) = true
  rw [noL_path]
  rfl
theorem noLs_seen (l : List (List Int × Str × Int × Int)) : noLs (l.map seenD) = true := by
  induction l with
  | nil => rfl
  | cons q r ih => rw [List.map_cons, noLs, ih, noL_seenD]; rfl
structure RA where
  r : Addr
  pl : Addr
  hd : Addr
  oc : Addr
  wl : Addr
  ll : Addr
  ch : Addr
  pn : Addr
structure RW where
  dr : Addr
  dp : Addr
  dq : Addr
  p : Addr
  pt : Addr
  ws : List V
  ls : List V
structure RunW (K : PySem.W.Frag) (H0 H : Hp) (A : RA) (W : RW) (s : RS) : Prop where
  sm : Same H0 H
  fr : H0 A.r = none
  fp : H0 A.pl = none
  fh : H0 A.hd = none
  fo : H0 A.oc = none
  fw : H0 A.wl = none
  fl : H0 A.ll = none
  r : H A.r = some (.ins (He.ga K "Runner") W.dr [("place", .ref A.pl), ("choices", .ref A.ch), ("plan", .ref A.pn), ("held", .ref A.hd), ("outcome", .ref A.oc), ("stopped", .bl s.stop)])
  pl : H A.pl = some (.ins (He.ga K "Surroundings") W.dp [("now", .ref W.p)])
  now : H W.p = some (.dK (mK s.now))
  ph : W.p ≠ A.hd
  held : H A.hd = some (.dK (mK s.held))
  oc : H A.oc = some (.ins (He.ga K "Outcome") W.dq [("printed", .ref W.pt), ("went", .ref A.wl), ("looked", .ref A.ll), ("waits", .int (s.waits : Nat)), ("ended", .non)])
  pt : SqT K H W.pt (s.printed.map V.int)
  wl : H A.wl = some (.lst W.ws)
  dw : DpAll K H W.ws (s.went.map stD)
  ll : H A.ll = some (.lst W.ls)
  dl : DpAll K H W.ls (s.seen.map seenD)
  wll : A.wl ≠ A.ll
def RunAt (K : PySem.W.Frag) (H0 H : Hp) (A : RA) (s : RS) : Prop := ∃ W, RunW K H0 H A W s
structure EnvAt (K : PySem.W.Frag) (H0 : Hp) (A : RA) (e : RE) (ks : List Str) : Prop where
  ch : ∃ cas : List Addr, SqA K H0 A.ch (cas.map V.ref) ∧ Paired (fun c g => ChgAt K H0 c g) cas e.cs
  pn : ∃ its : List Addr, SqA K H0 A.pn (its.map V.ref) ∧ Paired (fun a ns => SqA K H0 a (ns.map V.int)) its e.plan
  ok : EOk e ks
section
variable {K : PySem.W.Frag} {H0 H H' : Hp} {A : RA} {W : RW} {s : RS} {e : RE} {ks : List Str}
theorem RunW.keep (e : Same H H') (h : RunW K H0 H A W s) : RunW K H0 H' A W s where
  sm := h.sm.trans e
  fr := h.fr
  fp := h.fp
  fh := h.fh
  fo := h.fo
  fw := h.fw
  fl := h.fl
  r := e _ _ h.r
  pl := e _ _ h.pl
  now := e _ _ h.now
  ph := h.ph
  held := e _ _ h.held
  oc := e _ _ h.oc
  pt := smT e h.pt
  wl := e _ _ h.wl
  dw := DpAll.keep e h.dw
  ll := e _ _ h.ll
  dl := DpAll.keep e h.dl
  wll := h.wll
theorem RunW.sur (h : RunW K H0 H A W s) (k : ROk e ks s) (E : EOk e ks) : SurAt K H A.pl s.now := by
  have l : s.now.length = ks.length := by
    have := congrArg List.length k.keys
    unfold wKeys at this
    rwa [List.length_map] at this
  exact ⟨⟨_, _, h.pl, h.now, k.now, by have := E.srt; rw [← k.keys] at this; exact this⟩, by rw [l]; exact E.l1, by rw [l]; exact E.l4⟩
theorem RunW.upHeld (h : RunW K H0 H A W s) (m : WM) : RunW K H0 (upd H A.hd (.dK (mK m))) A W { s with held := m } := by
  have ts : TS K H (upd H A.hd (.dK (mK m))) := ts_upd _ h.held trivial
  exact { h with
    sm := smOut h.sm h.fh _
    r := upd_tg h.r h.held (by simp [tg])
    pl := upd_tg h.pl h.held (by simp [tg])
    now := by rw [upd_ne h.ph]; exact h.now
    held := upd_same
    oc := upd_tg h.oc h.held (by simp [tg])
    pt := ts _ _ h.pt
    wl := upd_tg h.wl h.held (by simp [tg])
    dw := dps_ts ts h.dw (noLs_sts _)
    ll := upd_tg h.ll h.held (by simp [tg])
    dl := dps_ts ts h.dl (noLs_seen _) }
theorem RunW.upStop (h : RunW K H0 H A W s) (b : Bool) : RunW K H0 (upd H A.r (.ins (He.ga K "Runner") W.dr [("place", .ref A.pl), ("choices", .ref A.ch), ("plan", .ref A.pn), ("held", .ref A.hd), ("outcome", .ref A.oc), ("stopped", .bl b)])) A W { s with stop := b } := by
  have ts := ts_upd (K := K) (.ins (He.ga K "Runner") W.dr [("place", .ref A.pl), ("choices", .ref A.ch), ("plan", .ref A.pn), ("held", .ref A.hd), ("outcome", .ref A.oc), ("stopped", .bl b)]) h.r trivial
  exact { h with
    sm := smOut h.sm h.fr _
    r := upd_same
    pl := upd_tg h.pl h.r (by simp [tg])
    now := upd_tg h.now h.r (by simp [tg])
    held := upd_tg h.held h.r (by simp [tg])
    oc := upd_tg h.oc h.r (by simp [tg])
    pt := ts _ _ h.pt
    wl := upd_tg h.wl h.r (by simp [tg])
    dw := dps_ts ts h.dw (noLs_sts _)
    ll := upd_tg h.ll h.r (by simp [tg])
    dl := dps_ts ts h.dl (noLs_seen _) }
/-- printed or waits anew -/
theorem RunW.upOut (h : RunW K H0 H A W s) (pt : Addr) (ps : List Int) (n : Nat) (hp : SqT K H pt (ps.map V.int)) :
    RunW K H0 (upd H A.oc (.ins (He.ga K "Outcome") W.dq [("printed", .ref pt), ("went", .ref A.wl), ("looked", .ref A.ll), ("waits", .int (n : Nat)), ("ended", .non)])) A { W with pt := pt } { s with printed := ps, waits := n } := by
  have ts := ts_upd (K := K) (.ins (He.ga K "Outcome") W.dq [("printed", .ref pt), ("went", .ref A.wl), ("looked", .ref A.ll), ("waits", .int (n : Nat)), ("ended", .non)]) h.oc trivial
  exact { h with
    sm := smOut h.sm h.fo _
    r := upd_tg h.r h.oc (by simp [tg])
    pl := upd_tg h.pl h.oc (by simp [tg])
    now := upd_tg h.now h.oc (by simp [tg])
    held := upd_tg h.held h.oc (by simp [tg])
    oc := upd_same
    pt := ts _ _ hp
    wl := upd_tg h.wl h.oc (by simp [tg])
    dw := dps_ts ts h.dw (noLs_sts _)
    ll := upd_tg h.ll h.oc (by simp [tg])
    dl := dps_ts ts h.dl (noLs_seen _) }
theorem RunW.upNow (h : RunW K H0 H A W s) (p : Addr) (m : WM) (hp : H p = some (.dK (mK m))) (n : p ≠ A.hd) : RunW K H0 (upd H A.pl (.ins (He.ga K "Surroundings") W.dp [("now", .ref p)])) A { W with p := p } { s with now := m } := by
  have ts := ts_upd (K := K) (.ins (He.ga K "Surroundings") W.dp [("now", .ref p)]) h.pl trivial
  exact { h with
    sm := smOut h.sm h.fp _
    r := upd_tg h.r h.pl (by simp [tg])
    pl := upd_same
    now := upd_tg hp h.pl (by simp [tg])
    ph := n
    held := upd_tg h.held h.pl (by simp [tg])
    oc := upd_tg h.oc h.pl (by simp [tg])
    pt := ts _ _ h.pt
    wl := upd_tg h.wl h.pl (by simp [tg])
    dw := dps_ts ts h.dw (noLs_sts _)
    ll := upd_tg h.ll h.pl (by simp [tg])
    dl := dps_ts ts h.dl (noLs_seen _) }
theorem RunW.upWent (h : RunW K H0 H A W s) (v : V) (st : List Int) (hv : Dp K H v (stD st)) : RunW K H0 (upd H A.wl (.lst (W.ws ++ [v]))) A { W with ws := W.ws ++ [v] } { s with went := s.went ++ [st] } := by
  have ts := ts_upd (K := K) (.lst (W.ws ++ [v])) h.wl trivial
  exact { h with
    sm := smOut h.sm h.fw _
    r := upd_tg h.r h.wl (by simp [tg])
    pl := upd_tg h.pl h.wl (by simp [tg])
    now := upd_tg h.now h.wl (by simp [tg])
    held := upd_tg h.held h.wl (by simp [tg])
    oc := upd_tg h.oc h.wl (by simp [tg])
    pt := ts _ _ h.pt
    wl := upd_same
    dw := by
      show DpAll K _ (W.ws ++ [v]) ((s.went ++ [st]).map stD)
      rw [List.map_append]
      exact DpAll.snoc (dps_ts ts h.dw (noLs_sts _)) (dp_ts ts hv (noL_st _))
    ll := by rw [upd_ne (Ne.symm h.wll)]; exact h.ll
    dl := dps_ts ts h.dl (noLs_seen _) }
theorem RunW.upSeen (h : RunW K H0 H A W s) (v : V) (q : List Int × Str × Int × Int) (hv : Dp K H v (seenD q)) : RunW K H0 (upd H A.ll (.lst (W.ls ++ [v]))) A { W with ls := W.ls ++ [v] } { s with seen := s.seen ++ [q] } := by
  have ts := ts_upd (K := K) (.lst (W.ls ++ [v])) h.ll trivial
  exact { h with
    sm := smOut h.sm h.fl _
    r := upd_tg h.r h.ll (by simp [tg])
    pl := upd_tg h.pl h.ll (by simp [tg])
    now := upd_tg h.now h.ll (by simp [tg])
    held := upd_tg h.held h.ll (by simp [tg])
    oc := upd_tg h.oc h.ll (by simp [tg])
    pt := ts _ _ h.pt
    wl := by rw [upd_ne h.wll]; exact h.wl
    dw := dps_ts ts h.dw (noLs_sts _)
    ll := upd_same
    dl := by
      show DpAll K _ (W.ls ++ [v]) ((s.seen ++ [q]).map seenD)
      rw [List.map_append]
      exact DpAll.snoc (dps_ts ts h.dl (noLs_seen _)) (dp_ts ts hv (noL_seenD _)) }
end
end RM

set_option Elab.async false
set_option linter.all false
set_option maxRecDepth 100000
set_option maxHeartbeats 4000000
set_option pp.maxSteps 600
set_option pp.deepTerms false
namespace RM
open PySem PySem.Spec PyProof.Rows L2
theorem upd_eq {H : Hp} {a : Addr} {o : HO} (h : H a = some o) : upd H a o = H := by
  funext b
  by_cases e : b = a
  · rw [e, upd_same, h]
  · rw [upd_ne e]
section
variable {P : Program} {w : World} {K : PySem.W.Frag} {mg : Str → Option Value} {base : Heap}
/-! ### value_of -/
def spVal (K : PySem.W.Frag) : Sp := fun vs H Q _ => match vs with
  | [x, y] => ∃ H0 A s z, x = .ref A.r ∧ y = .str z ∧ RunAt K H0 H A s ∧ Q (.int (vOf s z)) H
  | _ => False
theorem sc_Runner_value_of : FnScope ["self", "name"] ["self", "name"] (defScope s_Runner_value_of) := ⟨rfl, rfl, rfl, by decide +kernel, rfl, by decide +kernel, by decide +kernel⟩
theorem c_Runner_value_of (T : Top w K mg) : Met P w K mg base CX0 1 (He.ga K "Runner") "value_of" (spVal K) := by
  refine met_0 (f_Runner_value_of T) (k_Runner T) (me_Runner_value_of T) sc_Runner_value_of (fun _ _ _ _ _ _ us hl => match us, hl with | [_, _], _ => rfl) (fun vs H Q E h => match vs, h with | [_, _], _ => rfl) (fun cdv A outer s H vs Q E hr h => ?_)
  match vs, h with
  | [x, y], h =>
  obtain ⟨H0, A, s, z, rfl, rfl, ⟨W, R⟩, q⟩ := h
  refine ⟨_, (pss_one (ps_ret (pe_dget2 (hu_of hr) (pe_fld (pv 0) rfl) (pv 1) pe_int (M2.mk rfl rfl rfl rfl)))), ?_⟩
  refine ⟨_, rfl, A.r, _, W.dr, _, _, rfl, R.r, k_Runner T, na_Runner_held T, rfl, A.hd, rfl, .inl ⟨_, .of R.held⟩, _, rfl, (wGet s.held z).map V.int, .inl ⟨mK s.held, .inr z, .of R.held, rfl, (valV_get _ _).symm⟩, ?_⟩
  have e : ((wGet s.held z).map V.int).getD (.int 0) = .int (vOf s z) := by
    unfold vOf
    cases wGet s.held z <;> rfl
  rw [e]
  exact q
/-! ### wait -/
def spWait (K : PySem.W.Frag) : Sp := fun vs H Q _ => match vs with
  | [x] => ∃ H0 A e ks s, x = .ref A.r ∧ RunAt K H0 H A s ∧ EnvAt K H0 A e ks ∧ ROk e ks s ∧ ∀ H', RunAt K H0 H' A (waitS e s) → ROk e ks (waitS e s) → TS K H H' → Q .non H'
  | _ => False
theorem sc_Runner_wait : FnScope ["self", "number"] ["self"] (defScope s_Runner_wait) := ⟨rfl, rfl, rfl, by decide +kernel, rfl, by decide +kernel, by decide +kernel⟩
theorem c_Runner_wait (T : Top w K mg) : Met P w K mg base CX0 6 (He.ga K "Runner") "wait" (spWait K) := by
  refine met_0 (f_Runner_wait T) (k_Runner T) (me_Runner_wait T) sc_Runner_wait (fun _ _ _ _ _ _ us hl => match us, hl with | [_], _ => rfl) (fun vs H Q E h => match vs, h with | [_], _ => rfl) (fun cdv A outer s H vs Q E hr h => ?_)
  match vs, h with
  | [x], h =>
  obtain ⟨H0, A, e, ks, s, rfl, ⟨W, R⟩, V, k, q⟩ := h
  refine ⟨_, (pss_cons (ps_mid (ps_if (pt_cmpR op_lt (pe_fld (pe_fld (pv 0) rfl) rfl) (pcb (z_len T) call_len_seq boot_len (pa_cons (pe_fld (pv 0) rfl) pa_nil)) (nomark _))
      (pss_one (ps_for PassesOwn.never rfl (pi_seqA (pe_ix ix_any (pe_fld (pv 0) rfl) (pe_fld (pe_fld (pv 0) rfl) rfl) (fun _ _ => rfl))) (pg_name (i := 1) sc_Runner_wait.nd rfl (Or.inl rfl))
      (pss_cons (ps_fldaug (pv 0) (pe_ix ix_any (pe_fld (pv 0) rfl) (pv 1) (fun _ _ => rfl)) (in_addO (E := E0) (o_Surroundings_iadd T).calm (two_first (two_Surroundings_Change T)).1 (fun _ _ _ _ _ _ _ h => h.elim) hr))
    (pss_one (ps_expr (pe_bm PySem.F.plainAttrs_list PySem.F.slot_list_append PySem.F.type_list_append mt_append (pe_fld (pe_fld (pv 0) rfl) rfl) (pa_cons (pmt0 (c_Surroundings_state T) hr (pe_fld (pv 0) rfl)) pa_nil)))))))
      pss_nil))
    (pss_one (ps_fldaug (pe_fld (pv 0) rfl) pe_int in_add))), ?_⟩
  obtain ⟨its, hp, pp⟩ := V.pn
  obtain ⟨t, et⟩ : ∃ t, t = (itemAt e s).foldl (stepW e.cs) s := ⟨_, rfl⟩
  have lits : its.length = e.plan.length := pp.length
  refine ⟨fun σ' H' => (∃ v1, σ' = [some (.ref A.r), v1]) ∧ RunAt K H0 H' A t ∧ TS K H H', ?_, ?_⟩
  · refine ⟨_, rfl, A.r, _, W.dr, _, _, rfl, R.r, k_Runner T, na_Runner_outcome T, rfl, A.oc, _, W.dq, _, _, rfl, R.oc, k_Outcome T, na_Outcome_waits T, rfl, ?_⟩
    refine ⟨_, rfl, A.r, _, W.dr, _, _, rfl, R.r, k_Runner T, na_Runner_plan T, rfl, A.pn, _, rfl, sqA_sm R.sm hp, _, _, rfl, rfl, _, rfl, ?_⟩
    rw [List.length_map]
    refine ifB (fun hc => ?_) (fun hc => ?_)
    · have hlt : s.waits < its.length := by have := of_decide_eq_true hc; omega
      obtain ⟨ia, hia⟩ : ∃ ia, its[s.waits]? = some ia := ⟨_, List.getElem?_eq_getElem hlt⟩
      obtain ⟨it, hit, sit⟩ := paired_at pp hia
      have eit : itemAt e s = it := by unfold itemAt; rw [hit]; rfl
      rw [eit] at et
      have hi := List.mem_of_getElem? hit
      refine ⟨_, rfl, A.r, _, W.dr, _, _, rfl, R.r, k_Runner T, na_Runner_plan T, rfl, _, rfl, A.r, _, W.dr, _, _, rfl, R.r, k_Runner T, na_Runner_outcome T, rfl, A.oc, _, W.dq, _, _, rfl, R.oc, k_Outcome T, na_Outcome_waits T, rfl, ?_⟩
      refine ⟨A.pn, _, _, .ref ia, rfl, rfl, sqA_sm R.sm hp, atI_nat (by rw [List.getElem?_map, hia]; rfl), ?_⟩
      refine seqA_of sit R.sm fun J wk => ?_
      refine for_it wk (fun i σ' H' => (∃ v1, σ' = [some (.ref A.r), v1]) ∧ RunAt K H0 H' A ((it.take i).foldl (stepW e.cs) s) ∧ TS K H H') ⟨⟨_, rfl⟩, ⟨W, R⟩, fun _ _ h => h⟩ (fun _ _ _ _ h => let ⟨_, ⟨_, R⟩, _⟩ := h; R.sm) ?_ ?_
      · rintro i x σ H1 H2 hi2 ⟨⟨v1, rfl⟩, ⟨W1, R1⟩, ts⟩ ⟨rfl, hx⟩
        rw [List.getElem?_map] at hx
        obtain ⟨n, hn, rfl⟩ := Option.map_eq_some_iff.mp hx
        obtain ⟨g, hg, eg, og, sub⟩ := chg_at V.ok hi (List.mem_of_getElem? hn)
        obtain ⟨o1, o2⟩ := fold_ok V.ok hi k.now k.keys (jt := it.take i) fun _ h => List.mem_of_mem_take h
        have k1 : ROk ⟨e.cs, []⟩ ks ((it.take i).foldl (stepW e.cs) s) := ⟨o1, o2, by rw [fold_went]; have := k.one; omega, by
          show _ + ([].drop _ : List (List Int)).flatten.length ≤ 1000
          rw [List.drop_nil, fold_went]
          have := k.room
          rw [drop_item hit, List.length_append] at this
          have l2 : (it.take i).length ≤ it.length := by rw [List.length_take]; omega
          show _ + 0 ≤ 1000
          omega⟩
        have E1 : EOk ⟨e.cs, []⟩ ks := ⟨V.ok.cs, fun _ h => by simp at h, V.ok.srt, V.ok.l1, V.ok.l4⟩
        have lw : ((it.take i).foldl (stepW e.cs) s).went.length < 1000 := by
          rw [fold_went]
          have := k.room
          rw [drop_item hit, List.length_append] at this
          have il := (List.getElem?_eq_some_iff.mp hn).1
          rw [List.length_take]
          omega
        have ft := fold_take (cs := e.cs) hn s
        obtain ⟨u, eu⟩ : ∃ u, u = (it.take i).foldl (stepW e.cs) s := ⟨_, rfl⟩
        rw [← eu] at k1 R1 lw ft o1 o2
        obtain ⟨cas, hcs, pcs⟩ := V.ch
        have nr := V.ok.plan it hi n (List.mem_of_getElem? hn)
        have lcs : cas.length = e.cs.length := pcs.length
        obtain ⟨nn, rfl⟩ : ∃ nn : Nat, n = nn := ⟨n.toNat, by omega⟩
        obtain ⟨ca, hca⟩ : ∃ ca, cas[nn]? = some ca := ⟨_, List.getElem?_eq_getElem (by omega)⟩
        obtain ⟨g', hg', cg⟩ := paired_at pcs hca
        have : g' = g := by
          rw [Int.toNat_natCast, hg'] at hg
          exact Option.some.inj hg
        subst this
        have nl : lack u.now g' = none := List.find?_eq_none.mpr fun z hz => by simpa using (show z ∈ wKeys u.now by rw [o2]; exact sub z hz)
        -- self.place += self.choices[number]
        refine ⟨_, rfl, A.r, _, W1.dr, _, _, rfl, R1.r, k_Runner T, na_Runner_place T, rfl, _, rfl, A.r, _, W1.dr, _, _, rfl, R1.r, k_Runner T, na_Runner_choices T, rfl, _, rfl, ?_⟩
        refine ⟨A.ch, _, _, .ref ca, rfl, rfl, sqA_sm R1.sm hcs, atI_nat (by rw [List.getElem?_map, hca]; rfl), ?_⟩
        refine ⟨A.pl, W1.dp, _, rfl, R1.pl, A.pl, ca, u.now, g', rfl, rfl, R1.sur k1 E1, cg.keep R1.sm, fun _ dx p0 p H3 hpl e3 np hp3 => ?_, fun z hz => by rw [nl] at hz; cases hz⟩
        have ed : dx = W1.dp := by
          rw [R1.pl] at hpl
          injection hpl with h1
          injection h1 with _ h2 _
          exact h2.symm
        subst ed
        have nph : p ≠ A.hd := (ne_of_none R1.held np).symm
        have R3 := (R1.keep e3).upNow p _ hp3 nph
        have ts3 : TS K H2 (upd H3 A.pl (.ins (He.ga K "Surroundings") W1.dp [("now", .ref p)])) := fun a xs h => ts_upd (K := K) _ (e3 _ _ R1.pl) trivial a xs (smT e3 h)
        obtain ⟨H4, eH4⟩ : ∃ H4, H4 = upd H3 A.pl (.ins (He.ga K "Surroundings") W1.dp [("now", .ref p)]) := ⟨_, rfl⟩
        rw [← eH4] at R3 ts3 ⊢
        refine ⟨W1.dr, _, R3.r, (by show 6 < 1000; decide), ?_⟩
        have same : upd H4 A.r (.ins (He.ga K "Runner") W1.dr (putF "place" (.ref A.pl) [("place", .ref A.pl), ("choices", .ref A.ch), ("plan", .ref A.pn), ("held", .ref A.hd), ("outcome", .ref A.oc), ("stopped", .bl u.stop)])) = H4 := upd_eq R3.r
        rw [same]
        -- self.outcome.went.append(self.place.state())
        refine ⟨_, rfl, A.r, _, W1.dr, _, _, rfl, R3.r, k_Runner T, na_Runner_outcome T, rfl, A.oc, _, W1.dq, _, _, rfl, R3.oc, k_Outcome T, na_Outcome_went T, rfl, .inl ⟨rfl, _, SqL.of R3.wl⟩, ?_⟩
        have k3 : ROk ⟨e.cs, []⟩ ks { u with now := wOver u.now g' } := ⟨okM_over o1 og.1, by show wKeys (wOver u.now g') = ks; rw [wKeys_over (by rw [o2]; exact sub), o2], k1.one, k1.room⟩
        have s3 := R3.sur k3 E1
        refine ⟨_, rfl, A.r, _, W1.dr, _, _, rfl, R3.r, k_Runner T, na_Runner_place T, rfl, A.pl, W1.dp, _, rfl, R3.pl, rfl, A.pl, _, rfl, s3.1, s3.2.2, fun t5 H5 e5 ht5 => ?_⟩
        have R5 := R3.keep e5
        have hst : Dp K H5 (.ref t5) (stD (wVals (wOver u.now g'))) := st_dp (SqT.of (by rw [ht5]; unfold wVals; rw [List.map_map]; rfl))
        have lws : W1.ws.length = u.went.length := by have := DpAll.len R1.dw; rw [List.length_map] at this; exact this
        refine ⟨A.wl, _, .ref t5, rfl, rfl, R5.wl, small1000 (by show W1.ws.length ≤ 1000; omega), ⟨_, rfl⟩, ?_, ?_⟩
        · rw [ft]
          have R6 := R5.upWent (.ref t5) _ hst
          have es : stepW e.cs u nn = { u with now := wOver u.now g', went := u.went ++ [wVals (wOver u.now g')] } := by
            unfold stepW
            rw [eg]
          rw [es]
          exact ⟨_, R6⟩
        · exact fun a xs h => ts_upd (K := K) _ R5.wl trivial a xs (smT e5 (ts3 a xs (ts a xs h)))
      · rintro σ H1 ⟨⟨v1, rfl⟩, R1, ts⟩
        rw [List.length_map, List.take_length, ← et] at R1
        exact ⟨⟨_, rfl⟩, R1, ts⟩
    · have hge : e.plan.length ≤ s.waits := by have := of_decide_eq_false hc; omega
      have eit : itemAt e s = [] := by unfold itemAt; rw [List.getElem?_eq_none hge]; rfl
      rw [eit] at et
      rw [et]
      exact ⟨⟨_, rfl⟩, ⟨W, R⟩, fun _ _ h => h⟩
  · rintro σ H1 ⟨⟨v1, rfl⟩, ⟨W1, R1⟩, ts⟩
    refine ⟨_, rfl, A.r, _, W1.dr, _, _, rfl, R1.r, k_Runner T, na_Runner_outcome T, rfl, A.oc, _, W1.dq, _, _, rfl, R1.oc, k_Outcome T, na_Outcome_waits T, rfl, _, _, rfl, rfl, W1.dq, _, R1.oc, (by show 5 < 1000; decide), ?_⟩
    have R2 := R1.upOut W1.pt t.printed (t.waits + 1) R1.pt
    have ew : waitS e s = { t with printed := t.printed, waits := t.waits + 1 } := by rw [et]; rfl
    refine q _ ?_ (k.wait V.ok) ?_
    · rw [ew]
      exact ⟨_, R2⟩
    · exact fun a xs h => (ts_upd (K := K) _ R1.oc trivial) a xs (ts a xs h)
end
end RM

set_option Elab.async false
set_option linter.all false
set_option maxRecDepth 100000
set_option maxHeartbeats 4000000
set_option pp.maxSteps 900
set_option pp.deepTerms false
namespace RM
open PySem PySem.Spec PyProof.Rows L2
theorem small6 {n : Nat} (h : n ≤ 6000) : n < sizeLine := by unfold sizeLine; omega
theorem kB_mem {ks : List Str} : ∀ {l : List Stm}, kB ks l = true → ∀ {s : Stm}, s ∈ l → kS ks s = true
  | [], _, s, h => by simp at h
  | t :: r, w, s, h => by
    rw [kB, Bool.and_eq_true] at w
    rcases List.mem_cons.mp h with rfl | h
    · exact w.1
    · exact kB_mem w.2 h
section
variable {P : Program} {w : World} {K : PySem.W.Frag} {mg : Str → Option Value} {base : Heap}
def spExec (K : PySem.W.Frag) (n : Nat) : Sp := fun vs H Q _ => match vs with
  | [x, b, p] => ∃ H0 A e ks s l pth, x = .ref A.r ∧ RunAt K H0 H A s ∧ EnvAt K H0 A e ks ∧ ROk e ks s ∧ Dp K H0 b (.tuple (encB false l)) ∧ Dp K H p (pathD pth) ∧ dB l ≤ n ∧ kB ks l = true ∧ wB l = true ∧
    sz s + 2 * nB l ≤ 5000 ∧ pth.length + 2 * n ≤ 900 ∧ ∀ H', RunAt K H0 H' A (goB e pth 0 l s) → ROk e ks (goB e pth 0 l s) → TS K H H' → Q .non H'
  | _ => False
def spStmt (K : PySem.W.Frag) (n : Nat) : Sp := fun vs H Q _ => match vs with
  | [x, o, p] => ∃ H0 A e ks s st pth, x = .ref A.r ∧ RunAt K H0 H A s ∧ EnvAt K H0 A e ks ∧ ROk e ks s ∧ Dp K H0 o (encS false st) ∧ Dp K H p (pathD pth) ∧ dS st ≤ n ∧ kS ks st = true ∧ wS st = true ∧
    sz s + 2 * nS st ≤ 5000 ∧ pth.length + 2 * n + 1 ≤ 900 ∧ ∀ H', RunAt K H0 H' A (goS e pth st s) → ROk e ks (goS e pth st s) → TS K H H' → Q .non H'
  | _ => False
def spBranch (K : PySem.W.Frag) (n : Nat) : Sp := fun vs H Q _ => match vs with
  | [x, o, p, t] => ∃ H0 A e ks s pth c wd f1 f2 a b, x = .ref A.r ∧ t = .bl c ∧ RunAt K H0 H A s ∧ EnvAt K H0 A e ks ∧ ROk e ks s ∧ Dp K H0 o (.tuple [wd, f1, f2, .tuple (encB false a), .tuple (encB false b)]) ∧ Dp K H p (pathD pth) ∧
    dB a ≤ n ∧ dB b ≤ n ∧ kB ks a = true ∧ kB ks b = true ∧ wB a = true ∧ wB b = true ∧ sz s + 2 * nB a ≤ 5000 ∧ sz s + 2 * nB b ≤ 5000 ∧ pth.length + 2 * n + 1 ≤ 900 ∧
    ∀ H', RunAt K H0 H' A (if c = true then goB e (pth ++ [0]) 0 a s else goB e (pth ++ [1]) 0 b s) → ROk e ks (if c = true then goB e (pth ++ [0]) 0 a s else goB e (pth ++ [1]) 0 b s) → TS K H H' → Q .non H'
  | _ => False
theorem met_never {C : Addr} {m qual : Str} {st : Stmt} {f : Addr} {ps : List Str} {sp : Sp} {k : Nat} (F : ∃ fd, FunD K m qual (defArgs st) (defBody st) (defScope st) [] [] f fd) (c : Cls K C) (me : Meth K C m f)
    (hb : ∀ (kV doc pm : Value) (an : Option Addr) (cdv ct : Value) (us : List Value), us.length = ps.length → bindArgs (PySem.W.fnOf m qual (defArgs st) (defBody st) (defScope st) .none kV doc pm an cdv ct) ⟨us, []⟩ = pure (ps.zip us))
    (no : ∀ vs H Q E, ¬ sp vs H Q E) : Met P w K mg base CX0 k C m sp :=
  let ⟨fd, F⟩ := F
  ⟨f, fd, ps, c, me, ⟨fun vs H Q E h => absurd h (no vs H Q E), fun A outer s H args us vs Q E _ _ _ _ h => absurd h (no vs H Q E)⟩, F.bindsN hb⟩
theorem sc_Runner_branch : FnScope ["self", "statement", "path", "test", "number"] ["self", "statement", "path", "test"] (defScope s_Runner_branch) := ⟨rfl, rfl, rfl, by decide +kernel, rfl, by decide +kernel, by decide +kernel⟩
theorem ok_branch (T : Top w K mg) {n k : Nat} (ih : Met P w K mg base CX0 k (He.ga K "Runner") "execute" (spExec K n)) : Met P w K mg base CX0 (k + 1) (He.ga K "Runner") "branch" (spBranch K n) := by
  refine met_0 (f_Runner_branch T) (k_Runner T) (me_Runner_branch T) sc_Runner_branch (fun _ _ _ _ _ _ us hl => match us, hl with | [_, _, _, _], _ => rfl) (fun vs H Q E h => match vs, h with | [_, _, _, _], _ => rfl) (fun cdv A outer s H vs Q E hr h => ?_)
  match vs, h with
  | [x, o, p, t], h =>
  obtain ⟨H0, A, e, ks, s, pth, c, wd, f1, f2, a, b, rfl, rfl, R, VE, k, ho, hp, da, db, ka, kb, wa, wb, sa', sb', hl, q⟩ := h
  refine ⟨_, (pss_cons (ps_set (i := 4) sc_Runner_branch.nd rfl (Or.inl rfl) (pe_op op_sub pe_int (pct (z_int T) call_int1 boot_int (pa_cons (pv 3) pa_nil))))
    (pss_one (ps_expr (pmt ih hr (pv 0) (pa_cons (pe_ix ix_tup (pv 1) (pe_op op_add pe_int (pv 4)) (fun _ _ => rfl)) (pa_cons (pe_op op_catG (pv 2) (pe_tup (pa_cons (pv 4) pa_nil))) pa_nil)))))), ?_⟩
  obtain ⟨W, R⟩ := R
  obtain ⟨sa, xs, rfl, hsa, hx⟩ := Dp.tup_inv ho
  obtain ⟨x0, r0, rfl, d0, hx⟩ := DpAll.cons_inv hx
  obtain ⟨x1, r1, rfl, d1, hx⟩ := DpAll.cons_inv hx
  obtain ⟨x2, r2, rfl, d2, hx⟩ := DpAll.cons_inv hx
  obtain ⟨x3, r3, rfl, d3, hx⟩ := DpAll.cons_inv hx
  obtain ⟨x4, r4, rfl, d4, hx⟩ := DpAll.cons_inv hx
  obtain rfl := DpAll.nil_inv hx
  obtain ⟨pa, rfl, hpa⟩ := path_inv hp
  have hl1 : pth.length + 1 ≤ sizeLine := Nat.le_of_lt (small6 (by omega))
  refine ⟨_, rfl, .inr ⟨c, rfl, _, _, rfl, rfl, ?_⟩⟩
  cases c with
  | true =>
    have e0 : (fun i j : Int => V.int (i - j)) 1 (if true = true then 1 else 0) = .int 0 := rfl
    rw [e0]
    refine ⟨_, rfl, A.r, W.dr, _, rfl, R.r, rfl, _, rfl, _, rfl, _, _, rfl, rfl, sa, _, _, x3, rfl, rfl, smT R.sm hsa, at3, _, rfl, _, rfl, (by show 1 ≤ sizeLine; decide), fun p1 hp1 => ?_⟩
    refine path_snoc (smT (smNew1 hp1 _) hpa) (SqT.of upd_same) hl1 fun v H3 s3 hh => ?_
    have e3 : Same H H3 := (smNew1 hp1 _).trans s3
    refine ⟨H0, A, e, ks, s, a, _, rfl, ⟨W, R.keep e3⟩, VE, k, d3, hh, da, ka, wa, sa', by rw [List.length_append]; show pth.length + 1 + 2 * n ≤ 900; omega, fun H' R' k' ts => ?_⟩
    exact q H' R' k' fun a xs h => ts a xs (smT e3 h)
  | false =>
    have e0 : (fun i j : Int => V.int (i - j)) 1 (if false = true then 1 else 0) = .int 1 := rfl
    rw [e0]
    refine ⟨_, rfl, A.r, W.dr, _, rfl, R.r, rfl, _, rfl, _, rfl, _, _, rfl, rfl, sa, _, _, x4, rfl, rfl, smT R.sm hsa, at4, _, rfl, _, rfl, (by show 1 ≤ sizeLine; decide), fun p1 hp1 => ?_⟩
    refine path_snoc (smT (smNew1 hp1 _) hpa) (SqT.of upd_same) hl1 fun v H3 s3 hh => ?_
    have e3 : Same H H3 := (smNew1 hp1 _).trans s3
    refine ⟨H0, A, e, ks, s, b, _, rfl, ⟨W, R.keep e3⟩, VE, k, d4, hh, db, kb, wb, sb', by rw [List.length_append]; show pth.length + 1 + 2 * n ≤ 900; omega, fun H' R' k' ts => ?_⟩
    exact q H' R' k' fun a xs h => ts a xs (smT e3 h)
theorem sc_Runner_statement : FnScope ["self", "one", "path", "word", "turn"] ["self", "one", "path"] (defScope s_Runner_statement) := ⟨rfl, rfl, rfl, by decide +kernel, rfl, by decide +kernel, by decide +kernel⟩
theorem ok_statement (T : Top w K mg) {n' k : Nat} (ih : Met P w K mg base CX0 (k + 6) (He.ga K "Runner") "execute" (spExec K n')) : Met P w K mg base CX0 (k + 8) (He.ga K "Runner") "statement" (spStmt K n') := by
  refine met_0 (f_Runner_statement T) (k_Runner T) (me_Runner_statement T) sc_Runner_statement (fun _ _ _ _ _ _ us hl => match us, hl with | [_, _, _], _ => rfl) (fun vs H Q E h => match vs, h with | [_, _, _], _ => rfl) (fun cdv A outer s H vs Q E hr h => ?_)
  match vs, h with
  | [x, o, p], h =>
  obtain ⟨H0, A, e, ks, s, st, pth, rfl, ⟨W, R⟩, VE, k, ho, hp, ds, kst, wst, ss, hl, q⟩ := h
  refine ⟨_, (pss_cons (ps_set (i := 3) sc_Runner_statement.nd rfl (Or.inl rfl) (pe_ix ix_tup (pv 1) pe_int (fun _ _ => rfl)))
    (pss_one (ps_if (pt_cmpR op_eq (pv 3) pe_str (nomark _))
      (pss_cons (ps_dput (hu_of hr) (pe_fld (pv 0) rfl) (pe_ix ix_tup (pv 1) pe_int (fun _ _ => rfl)) (pe_getO (E := E0) (o_Surroundings_getitem T).calm (fun _ _ _ _ _ _ _ h => h.elim) hr (pe_fld (pv 0) rfl) (pe_ix ix_tup (pv 1) pe_int (fun _ _ => rfl))) rfl)
    (pss_one (ps_expr (pe_bm PySem.F.plainAttrs_list PySem.F.slot_list_append PySem.F.type_list_append mt_append (pe_fld (pe_fld (pv 0) rfl) rfl) (pa_cons (pe_tup (pa_cons (pv 2) (pa_cons (pe_ix ix_tup (pv 1) pe_int (fun _ _ => rfl)) (pa_cons (pe_getO (E := E0) (o_Surroundings_getitem T).calm (fun _ _ _ _ _ _ _ h => h.elim) hr (pe_fld (pv 0) rfl) (pe_ix ix_tup (pv 1) pe_int (fun _ _ => rfl))) (pa_cons (pe_op op_sub (pcb (z_len T) call_len_seq boot_len (pa_cons (pe_fld (pe_fld (pv 0) rfl) rfl) pa_nil)) pe_int) pa_nil))))) pa_nil)))))
      (pss_one (ps_if (pt_cmpR op_eq (pv 3) pe_str (nomark _))
      (pss_one (ps_dput (hu_of hr) (pe_fld (pv 0) rfl) (pe_ix ix_tup (pv 1) pe_int (fun _ _ => rfl)) (pe_ix ix_tup (pv 1) pe_int (fun _ _ => rfl)) rfl))
      (pss_one (ps_if (pt_cmpR op_eq (pv 3) pe_str (nomark _))
      (pss_one (ps_dput (hu_of hr) (pe_fld (pv 0) rfl) (pe_ix ix_tup (pv 1) pe_int (fun _ _ => rfl)) (pmt (c_Runner_value_of T) hr (pv 0) (pa_cons (pe_ix ix_tup (pv 1) pe_int (fun _ _ => rfl)) pa_nil)) rfl))
      (pss_one (ps_if (pt_cmpR op_eq (pv 3) pe_str (nomark _))
      (pss_one (ps_fld (pe_fld (pv 0) rfl) (pe_op op_catG (pe_fld (pe_fld (pv 0) rfl) rfl) (pe_tup (pa_cons (pmt (c_Runner_value_of T) hr (pv 0) (pa_cons (pe_ix ix_tup (pv 1) pe_int (fun _ _ => rfl)) pa_nil)) pa_nil))) rfl))
      (pss_one (ps_if (pt_cmpR op_eq (pv 3) pe_str (nomark _))
      (pss_one (ps_fld (pe_fld (pv 0) rfl) (pe_op op_catG (pe_fld (pe_fld (pv 0) rfl) rfl) (pe_tup (pa_cons (pe_ix ix_tup (pv 1) pe_int (fun _ _ => rfl)) pa_nil))) rfl))
      (pss_one (ps_if (pt_cmpR op_eq (pv 3) pe_str (nomark _))
      (pss_one (ps_expr (pmt0 (c_Runner_wait T) hr (pv 0))))
      (pss_one (ps_if (pt_cmpR op_eq (pv 3) pe_str (nomark _))
      (pss_one (ps_expr (pmt (ok_branch T ih) hr (pv 0) (pa_cons (pv 1) (pa_cons (pv 2) (pa_cons (pe_cmpR op_eq (pmt (c_Runner_value_of T) hr (pv 0) (pa_cons (pe_ix ix_tup (pv 1) pe_int (fun _ _ => rfl)) pa_nil)) (pe_ix ix_tup (pv 1) pe_int (fun _ _ => rfl)) (nomark _)) pa_nil))))))
      (pss_one (ps_if (pt_cmpR op_eq (pv 3) pe_str (nomark _))
      (pss_one (ps_expr (pmt (ok_branch T ih) hr (pv 0) (pa_cons (pv 1) (pa_cons (pv 2) (pa_cons (pe_cmpR op_eq (pmt (c_Runner_value_of T) hr (pv 0) (pa_cons (pe_ix ix_tup (pv 1) pe_int (fun _ _ => rfl)) pa_nil)) (pmt (c_Runner_value_of T) hr (pv 0) (pa_cons (pe_ix ix_tup (pv 1) pe_int (fun _ _ => rfl)) pa_nil)) (nomark _)) pa_nil))))))
      (pss_one (ps_if (pt_cmpR op_eq (pv 3) pe_str (nomark _))
      (pss_one (ps_for PassesOwn.never rfl (pi_range1 rfl (z_range T) (pa_cons (pe_ix ix_tup (pv 1) pe_int (fun _ _ => rfl)) pa_nil)) (pg_name (i := 4) sc_Runner_statement.nd rfl (Or.inl rfl))
      (pss_one (ps_expr (pmt ih hr (pv 0) (pa_cons (pe_ix ix_tup (pv 1) pe_int (fun _ _ => rfl)) (pa_cons (pe_op op_catG (pv 2) (pe_tup (pa_cons pe_int pa_nil))) pa_nil)))))))
      (pss_one (ps_fld (pv 0) pe_bl rfl))))))))))))))))))))), ?_⟩
  obtain ⟨sa, sxs, rfl, hsa, hsx⟩ := shape_of ho
  refine ⟨_, rfl, sa, _, _, _, rfl, rfl, smT R.sm hsa, at0, ?_⟩
  cases st with
  | read v kk =>
    obtain ⟨x0, r0, rfl, d0, hsx⟩ := DpAll.cons_inv hsx
    obtain ⟨x1, r1, rfl, d1, hsx⟩ := DpAll.cons_inv hsx
    obtain rfl := DpAll.nil_inv hsx
    obtain rfl := Dp.str_inv d0
    obtain rfl := Dp.str_inv d1
    refine ⟨_, rfl, rfl, _, rfl, ifT (decide_eq_true rfl) ?_⟩
    have hk : kk ∈ wKeys s.now := by rw [k.keys]; exact of_decide_eq_true kst
    have hg : wGet s.now kk = some (nOf s kk) := by
      unfold nOf
      cases e : wGet s.now kk with
      | none => exact absurd hk (wGet_none.mp e)
      | some n => rfl
    have sz1 : s.held.length ≤ 5000 ∧ s.seen.length ≤ 5000 := by unfold sz at ss; omega
    refine ⟨_, rfl, A.r, _, W.dr, _, _, rfl, R.r, k_Runner T, na_Runner_place T, rfl, _, rfl, sa, _, _, _, rfl, rfl, smT R.sm hsa, at2, A.pl, W.dp, _, rfl, R.pl, A.pl, s.now, kk, rfl, rfl, R.sur k VE.ok, fun n hn => ?_, fun z => absurd hk z⟩
    obtain rfl : nOf s kk = n := by rw [hg] at hn; exact Option.some.inj hn
    refine ⟨_, rfl, A.r, _, W.dr, _, _, rfl, R.r, k_Runner T, na_Runner_held T, rfl, _, rfl, sa, _, _, _, rfl, rfl, smT R.sm hsa, at1, A.hd, _, rfl, .inl ⟨mK s.held, .inr v, R.held, rfl, small6 (by show (s.held.map _).length ≤ 6000; rw [List.length_map]; omega), rfl⟩, ?_⟩
    rw [putK_w]
    have R1 := R.upHeld (wPut s.held v (nOf s kk))
    have ts1 : TS K H (upd H A.hd (.dK (mK (wPut s.held v (nOf s kk))))) := ts_upd _ R.held trivial
    have hp1 := dp_ts ts1 hp (noL_path _)
    obtain ⟨H1, eH1⟩ : ∃ H1, H1 = upd H A.hd (.dK (mK (wPut s.held v (nOf s kk)))) := ⟨_, rfl⟩
    rw [← eH1] at R1 ts1 hp1 ⊢
    refine ⟨_, rfl, A.r, _, W.dr, _, _, rfl, R1.r, k_Runner T, na_Runner_outcome T, rfl, A.oc, _, W.dq, _, _, rfl, R1.oc, k_Outcome T, na_Outcome_looked T, rfl, .inl ⟨rfl, _, SqL.of R1.ll⟩, ?_⟩
    refine ⟨_, rfl, _, rfl, sa, _, _, _, rfl, rfl, smT R1.sm hsa, at2, _, rfl, A.r, _, W.dr, _, _, rfl, R1.r, k_Runner T, na_Runner_place T, rfl, _, rfl, sa, _, _, _, rfl, rfl, smT R1.sm hsa, at2, A.pl, W.dp, _, rfl, R1.pl, A.pl, s.now, kk, rfl, rfl, R1.sur k.of VE.ok, fun n hn => ?_, fun z => absurd hk z⟩
    obtain rfl : nOf s kk = n := by rw [hg] at hn; exact Option.some.inj hn
    have lws : W.ws.length = s.went.length := by have := DpAll.len R.dw; rw [List.length_map] at this; exact this
    have lls : W.ls.length = s.seen.length := by have := DpAll.len R.dl; rw [List.length_map] at this; exact this
    refine ⟨_, rfl, A.r, _, W.dr, _, _, rfl, R1.r, k_Runner T, na_Runner_outcome T, rfl, A.oc, _, W.dq, _, _, rfl, R1.oc, k_Outcome T, na_Outcome_went T, rfl, A.wl, W.ws, rfl, .inl (SqL.of R1.wl), _, _, rfl, rfl, (by show 4 ≤ sizeLine; decide), fun pt hpt => ?_⟩
    have R2 := R1.keep (smNew1 hpt (.tup [p, .str kk, .int (nOf s kk), .int ((W.ws.length : Nat) - 1)]))
    refine ⟨A.ll, W.ls, .ref pt, rfl, rfl, R2.ll, small6 (by omega), ?_⟩
    have hq : Dp K (upd H1 pt (.tup [p, .str kk, .int (nOf s kk), .int ((W.ws.length : Nat) - 1)])) (.ref pt) (seenD (pth, kk, nOf s kk, ((s.went.length : Nat) : Int) - 1)) := by
      refine .tup (SqT.of upd_same) (.cons (Dp.keep (smNew1 hpt _) hp1) (.cons (.str _) (.cons (.int _) (.cons ?_ .nil))))
      rw [lws]
      exact .int _
    have R3 := R2.upSeen (.ref pt) _ hq
    refine q _ ?_ ?_ ?_
    · exact ⟨_, R3⟩
    · exact k.of
    · exact fun a xs h => ts_upd (K := K) _ R2.ll trivial a xs (smT (smNew1 hpt _) (ts1 a xs h))
  | set v n =>
    obtain ⟨x0, r0, rfl, d0, hsx⟩ := DpAll.cons_inv hsx
    obtain ⟨x1, r1, rfl, d1, hsx⟩ := DpAll.cons_inv hsx
    obtain rfl := DpAll.nil_inv hsx
    obtain rfl := Dp.str_inv d0
    obtain rfl := Dp.int_inv d1
    refine ⟨_, rfl, rfl, _, rfl, ifF (decide_eq_false fun z => absurd (V.str.inj z) (by show ("set" : Str) ≠ "read"; decide)) ?_⟩
    refine ⟨_, rfl, rfl, _, rfl, ifT (decide_eq_true rfl) ?_⟩
    have sz1 : s.held.length ≤ 5000 := by unfold sz at ss; omega
    refine ⟨_, rfl, sa, _, _, _, rfl, rfl, smT R.sm hsa, at2, _, rfl, A.r, _, W.dr, _, _, rfl, R.r, k_Runner T, na_Runner_held T, rfl, _, rfl, sa, _, _, _, rfl, rfl, smT R.sm hsa, at1, A.hd, _, rfl, .inl ⟨mK s.held, .inr v, R.held, rfl, small6 (by show (s.held.map _).length ≤ 6000; rw [List.length_map]; omega), rfl⟩, ?_⟩
    rw [putK_w]
    exact q _ ⟨_, R.upHeld (wPut s.held v n)⟩ k.of (ts_upd _ R.held trivial)
  | copy v u =>
    obtain ⟨x0, r0, rfl, d0, hsx⟩ := DpAll.cons_inv hsx
    obtain ⟨x1, r1, rfl, d1, hsx⟩ := DpAll.cons_inv hsx
    obtain rfl := DpAll.nil_inv hsx
    obtain rfl := Dp.str_inv d0
    obtain rfl := Dp.str_inv d1
    refine ⟨_, rfl, rfl, _, rfl, ifF (decide_eq_false fun z => absurd (V.str.inj z) (by show ("copy" : Str) ≠ "read"; decide)) ?_⟩
    refine ⟨_, rfl, rfl, _, rfl, ifF (decide_eq_false fun z => absurd (V.str.inj z) (by show ("copy" : Str) ≠ "set"; decide)) ?_⟩
    refine ⟨_, rfl, rfl, _, rfl, ifT (decide_eq_true rfl) ?_⟩
    have sz1 : s.held.length ≤ 5000 := by unfold sz at ss; omega
    refine ⟨_, rfl, A.r, W.dr, _, rfl, R.r, rfl, _, rfl, sa, _, _, _, rfl, rfl, smT R.sm hsa, at2, H0, A, s, u, rfl, rfl, ⟨W, R⟩, ?_⟩
    refine ⟨_, rfl, A.r, _, W.dr, _, _, rfl, R.r, k_Runner T, na_Runner_held T, rfl, _, rfl, sa, _, _, _, rfl, rfl, smT R.sm hsa, at1, A.hd, _, rfl, .inl ⟨mK s.held, .inr v, R.held, rfl, small6 (by show (s.held.map _).length ≤ 6000; rw [List.length_map]; omega), rfl⟩, ?_⟩
    rw [putK_w]
    exact q _ ⟨_, R.upHeld (wPut s.held v (vOf s u))⟩ k.of (ts_upd _ R.held trivial)
  | print v =>
    obtain ⟨x0, r0, rfl, d0, hsx⟩ := DpAll.cons_inv hsx
    obtain rfl := DpAll.nil_inv hsx
    obtain rfl := Dp.str_inv d0
    refine ⟨_, rfl, rfl, _, rfl, ifF (decide_eq_false fun z => absurd (V.str.inj z) (by show ("print" : Str) ≠ "read"; decide)) ?_⟩
    refine ⟨_, rfl, rfl, _, rfl, ifF (decide_eq_false fun z => absurd (V.str.inj z) (by show ("print" : Str) ≠ "set"; decide)) ?_⟩
    refine ⟨_, rfl, rfl, _, rfl, ifF (decide_eq_false fun z => absurd (V.str.inj z) (by show ("print" : Str) ≠ "copy"; decide)) ?_⟩
    refine ⟨_, rfl, rfl, _, rfl, ifT (decide_eq_true rfl) ?_⟩
    have sz1 : s.printed.length ≤ 5000 := by unfold sz at ss; omega
    refine ⟨_, rfl, A.r, _, W.dr, _, _, rfl, R.r, k_Runner T, na_Runner_outcome T, rfl, A.oc, _, W.dq, _, _, rfl, R.oc, k_Outcome T, na_Outcome_printed T, rfl, _, rfl, A.r, W.dr, _, rfl, R.r, rfl, _, rfl, sa, _, _, _, rfl, rfl, smT R.sm hsa, at1, H0, A, s, v, rfl, rfl, ⟨W, R⟩, (by show 1 ≤ sizeLine; decide), fun p1 hp1 => ?_⟩
    refine path_snoc (smT (smNew1 hp1 _) R.pt) (SqT.of upd_same) (Nat.le_of_lt (small6 (by omega))) fun y H3 s3 hh => ?_
    obtain ⟨pt, rfl, hpt⟩ := path_inv hh
    have e3 := (smNew1 hp1 (.tup [.int (vOf s v)])).trans s3
    have R3 := R.keep e3
    refine ⟨_, rfl, A.r, _, W.dr, _, _, rfl, R3.r, k_Runner T, na_Runner_outcome T, rfl, A.oc, _, W.dq, _, rfl, R3.oc, k_Outcome T, na_Outcome_printed T, (by show 5 < 1000; decide), ?_⟩
    exact q _ ⟨_, R3.upOut pt (s.printed ++ [vOf s v]) s.waits hpt⟩ k.of (fun a xs h => ts_upd (K := K) _ R3.oc trivial a xs (smT e3 h))
  | say n =>
    obtain ⟨x0, r0, rfl, d0, hsx⟩ := DpAll.cons_inv hsx
    obtain rfl := DpAll.nil_inv hsx
    obtain rfl := Dp.int_inv d0
    refine ⟨_, rfl, rfl, _, rfl, ifF (decide_eq_false fun z => absurd (V.str.inj z) (by show ("say" : Str) ≠ "read"; decide)) ?_⟩
    refine ⟨_, rfl, rfl, _, rfl, ifF (decide_eq_false fun z => absurd (V.str.inj z) (by show ("say" : Str) ≠ "set"; decide)) ?_⟩
    refine ⟨_, rfl, rfl, _, rfl, ifF (decide_eq_false fun z => absurd (V.str.inj z) (by show ("say" : Str) ≠ "copy"; decide)) ?_⟩
    refine ⟨_, rfl, rfl, _, rfl, ifF (decide_eq_false fun z => absurd (V.str.inj z) (by show ("say" : Str) ≠ "print"; decide)) ?_⟩
    refine ⟨_, rfl, rfl, _, rfl, ifT (decide_eq_true rfl) ?_⟩
    have sz1 : s.printed.length ≤ 5000 := by unfold sz at ss; omega
    refine ⟨_, rfl, A.r, _, W.dr, _, _, rfl, R.r, k_Runner T, na_Runner_outcome T, rfl, A.oc, _, W.dq, _, _, rfl, R.oc, k_Outcome T, na_Outcome_printed T, rfl, _, rfl, sa, _, _, _, rfl, rfl, smT R.sm hsa, at1, (by show 1 ≤ sizeLine; decide), fun p1 hp1 => ?_⟩
    refine path_snoc (smT (smNew1 hp1 _) R.pt) (SqT.of upd_same) (Nat.le_of_lt (small6 (by omega))) fun y H3 s3 hh => ?_
    obtain ⟨pt, rfl, hpt⟩ := path_inv hh
    have e3 := (smNew1 hp1 (.tup [.int n])).trans s3
    have R3 := R.keep e3
    refine ⟨_, rfl, A.r, _, W.dr, _, _, rfl, R3.r, k_Runner T, na_Runner_outcome T, rfl, A.oc, _, W.dq, _, rfl, R3.oc, k_Outcome T, na_Outcome_printed T, (by show 5 < 1000; decide), ?_⟩
    exact q _ ⟨_, R3.upOut pt (s.printed ++ [n]) s.waits hpt⟩ k.of (fun a xs h => ts_upd (K := K) _ R3.oc trivial a xs (smT e3 h))
  | wait =>
    refine ⟨_, rfl, rfl, _, rfl, ifF (decide_eq_false fun z => absurd (V.str.inj z) (by show ("wait" : Str) ≠ "read"; decide)) ?_⟩
    refine ⟨_, rfl, rfl, _, rfl, ifF (decide_eq_false fun z => absurd (V.str.inj z) (by show ("wait" : Str) ≠ "set"; decide)) ?_⟩
    refine ⟨_, rfl, rfl, _, rfl, ifF (decide_eq_false fun z => absurd (V.str.inj z) (by show ("wait" : Str) ≠ "copy"; decide)) ?_⟩
    refine ⟨_, rfl, rfl, _, rfl, ifF (decide_eq_false fun z => absurd (V.str.inj z) (by show ("wait" : Str) ≠ "print"; decide)) ?_⟩
    refine ⟨_, rfl, rfl, _, rfl, ifF (decide_eq_false fun z => absurd (V.str.inj z) (by show ("wait" : Str) ≠ "say"; decide)) ?_⟩
    refine ⟨_, rfl, rfl, _, rfl, ifT (decide_eq_true rfl) ?_⟩
    exact ⟨_, rfl, A.r, W.dr, _, rfl, R.r, rfl, H0, A, e, ks, s, rfl, ⟨W, R⟩, VE, k, fun H' R' k' ts => q H' R' k' ts⟩
  | ite v n a b =>
    obtain ⟨x0, r0, rfl, d0, hsx⟩ := DpAll.cons_inv hsx
    obtain ⟨x1, r1, rfl, d1, hsx⟩ := DpAll.cons_inv hsx
    obtain ⟨x2, r2, rfl, d2, hsx⟩ := DpAll.cons_inv hsx
    obtain ⟨x3, r3, rfl, d3, hsx⟩ := DpAll.cons_inv hsx
    obtain rfl := DpAll.nil_inv hsx
    obtain rfl := Dp.str_inv d0
    obtain rfl := Dp.int_inv d1
    refine ⟨_, rfl, rfl, _, rfl, ifF (decide_eq_false fun z => absurd (V.str.inj z) (by show ("if" : Str) ≠ "read"; decide)) ?_⟩
    refine ⟨_, rfl, rfl, _, rfl, ifF (decide_eq_false fun z => absurd (V.str.inj z) (by show ("if" : Str) ≠ "set"; decide)) ?_⟩
    refine ⟨_, rfl, rfl, _, rfl, ifF (decide_eq_false fun z => absurd (V.str.inj z) (by show ("if" : Str) ≠ "copy"; decide)) ?_⟩
    refine ⟨_, rfl, rfl, _, rfl, ifF (decide_eq_false fun z => absurd (V.str.inj z) (by show ("if" : Str) ≠ "print"; decide)) ?_⟩
    refine ⟨_, rfl, rfl, _, rfl, ifF (decide_eq_false fun z => absurd (V.str.inj z) (by show ("if" : Str) ≠ "say"; decide)) ?_⟩
    refine ⟨_, rfl, rfl, _, rfl, ifF (decide_eq_false fun z => absurd (V.str.inj z) (by show ("if" : Str) ≠ "wait"; decide)) ?_⟩
    refine ⟨_, rfl, rfl, _, rfl, ifT (decide_eq_true rfl) ?_⟩
    have da : dB a ≤ n' ∧ dB b ≤ n' := by have : max (dB a) (dB b) ≤ n' := ds; omega
    have kk : kB ks a = true ∧ kB ks b = true := Bool.and_eq_true_iff.mp kst
    have ww : wB a = true ∧ wB b = true := by
      have := wB_of wst
      exact ⟨this a (by simp [Stm.bodies]), this b (by simp [Stm.bodies])⟩
    have sz1 : nS (.ite v n a b) = 1 + max (nB a) (nB b) := by rw [nS]
    rw [sz1] at ss
    refine ⟨_, rfl, A.r, W.dr, _, rfl, R.r, rfl, _, rfl, _, rfl, _, rfl, A.r, W.dr, _, rfl, R.r, rfl, _, rfl, sa, _, _, _, rfl, rfl, smT R.sm hsa, at1, H0, A, s, v, rfl, rfl, ⟨W, R⟩, _, rfl, sa, _, _, _, rfl, rfl, smT R.sm hsa, at2, rfl, ?_⟩
    refine ⟨H0, A, e, ks, s, pth, _, _, _, _, a, b, rfl, rfl, ⟨W, R⟩, VE, k, ho, hp, da.1, da.2, kk.1, kk.2, ww.1, ww.2, by omega, by omega, hl, fun H' R' k' ts => ?_⟩
    have eg : (if decide (V.int (vOf s v) = V.int n) = true then goB e (pth ++ [0]) 0 a s else goB e (pth ++ [1]) 0 b s) = goS e pth (.ite v n a b) s := by
      rw [goS]
      show _ = if vOf s v = n then _ else _
      by_cases hc : vOf s v = n
      · rw [if_pos hc, if_pos (decide_eq_true (congrArg V.int hc))]
      · rw [if_neg hc, if_neg (by simpa using hc)]
    rw [eg] at R' k'
    exact q H' R' k' ts
  | same v u a b =>
    obtain ⟨x0, r0, rfl, d0, hsx⟩ := DpAll.cons_inv hsx
    obtain ⟨x1, r1, rfl, d1, hsx⟩ := DpAll.cons_inv hsx
    obtain ⟨x2, r2, rfl, d2, hsx⟩ := DpAll.cons_inv hsx
    obtain ⟨x3, r3, rfl, d3, hsx⟩ := DpAll.cons_inv hsx
    obtain rfl := DpAll.nil_inv hsx
    obtain rfl := Dp.str_inv d0
    obtain rfl := Dp.str_inv d1
    refine ⟨_, rfl, rfl, _, rfl, ifF (decide_eq_false fun z => absurd (V.str.inj z) (by show ("same" : Str) ≠ "read"; decide)) ?_⟩
    refine ⟨_, rfl, rfl, _, rfl, ifF (decide_eq_false fun z => absurd (V.str.inj z) (by show ("same" : Str) ≠ "set"; decide)) ?_⟩
    refine ⟨_, rfl, rfl, _, rfl, ifF (decide_eq_false fun z => absurd (V.str.inj z) (by show ("same" : Str) ≠ "copy"; decide)) ?_⟩
    refine ⟨_, rfl, rfl, _, rfl, ifF (decide_eq_false fun z => absurd (V.str.inj z) (by show ("same" : Str) ≠ "print"; decide)) ?_⟩
    refine ⟨_, rfl, rfl, _, rfl, ifF (decide_eq_false fun z => absurd (V.str.inj z) (by show ("same" : Str) ≠ "say"; decide)) ?_⟩
    refine ⟨_, rfl, rfl, _, rfl, ifF (decide_eq_false fun z => absurd (V.str.inj z) (by show ("same" : Str) ≠ "wait"; decide)) ?_⟩
    refine ⟨_, rfl, rfl, _, rfl, ifF (decide_eq_false fun z => absurd (V.str.inj z) (by show ("same" : Str) ≠ "if"; decide)) ?_⟩
    refine ⟨_, rfl, rfl, _, rfl, ifT (decide_eq_true rfl) ?_⟩
    have da : dB a ≤ n' ∧ dB b ≤ n' := by have : max (dB a) (dB b) ≤ n' := ds; omega
    have kk : kB ks a = true ∧ kB ks b = true := Bool.and_eq_true_iff.mp kst
    have ww : wB a = true ∧ wB b = true := by
      have := wB_of wst
      exact ⟨this a (by simp [Stm.bodies]), this b (by simp [Stm.bodies])⟩
    have sz1 : nS (.same v u a b) = 1 + max (nB a) (nB b) := by rw [nS]
    rw [sz1] at ss
    refine ⟨_, rfl, A.r, W.dr, _, rfl, R.r, rfl, _, rfl, _, rfl, _, rfl, A.r, W.dr, _, rfl, R.r, rfl, _, rfl, sa, _, _, _, rfl, rfl, smT R.sm hsa, at1, H0, A, s, v, rfl, rfl, ⟨W, R⟩, _, rfl, A.r, W.dr, _, rfl, R.r, rfl, _, rfl, sa, _, _, _, rfl, rfl, smT R.sm hsa, at2, H0, A, s, u, rfl, rfl, ⟨W, R⟩, rfl, ?_⟩
    refine ⟨H0, A, e, ks, s, pth, _, _, _, _, a, b, rfl, rfl, ⟨W, R⟩, VE, k, ho, hp, da.1, da.2, kk.1, kk.2, ww.1, ww.2, by omega, by omega, hl, fun H' R' k' ts => ?_⟩
    have eg : (if decide (V.int (vOf s v) = V.int (vOf s u)) = true then goB e (pth ++ [0]) 0 a s else goB e (pth ++ [1]) 0 b s) = goS e pth (.same v u a b) s := by
      rw [goS]
      show _ = if vOf s v = vOf s u then _ else _
      by_cases hc : vOf s v = vOf s u
      · rw [if_pos hc, if_pos (decide_eq_true (congrArg V.int hc))]
      · rw [if_neg hc, if_neg (by simpa using hc)]
    rw [eg] at R' k'
    exact q H' R' k' ts
  | rep n a =>
    obtain ⟨x0, r0, rfl, d0, hsx⟩ := DpAll.cons_inv hsx
    obtain ⟨x1, r1, rfl, d1, hsx⟩ := DpAll.cons_inv hsx
    obtain rfl := DpAll.nil_inv hsx
    obtain rfl := Dp.int_inv d0
    refine ⟨_, rfl, rfl, _, rfl, ifF (decide_eq_false fun z => absurd (V.str.inj z) (by show ("repeat" : Str) ≠ "read"; decide)) ?_⟩
    refine ⟨_, rfl, rfl, _, rfl, ifF (decide_eq_false fun z => absurd (V.str.inj z) (by show ("repeat" : Str) ≠ "set"; decide)) ?_⟩
    refine ⟨_, rfl, rfl, _, rfl, ifF (decide_eq_false fun z => absurd (V.str.inj z) (by show ("repeat" : Str) ≠ "copy"; decide)) ?_⟩
    refine ⟨_, rfl, rfl, _, rfl, ifF (decide_eq_false fun z => absurd (V.str.inj z) (by show ("repeat" : Str) ≠ "print"; decide)) ?_⟩
    refine ⟨_, rfl, rfl, _, rfl, ifF (decide_eq_false fun z => absurd (V.str.inj z) (by show ("repeat" : Str) ≠ "say"; decide)) ?_⟩
    refine ⟨_, rfl, rfl, _, rfl, ifF (decide_eq_false fun z => absurd (V.str.inj z) (by show ("repeat" : Str) ≠ "wait"; decide)) ?_⟩
    refine ⟨_, rfl, rfl, _, rfl, ifF (decide_eq_false fun z => absurd (V.str.inj z) (by show ("repeat" : Str) ≠ "if"; decide)) ?_⟩
    refine ⟨_, rfl, rfl, _, rfl, ifF (decide_eq_false fun z => absurd (V.str.inj z) (by show ("repeat" : Str) ≠ "same"; decide)) ?_⟩
    refine ⟨_, rfl, rfl, _, rfl, ifT (decide_eq_true rfl) ?_⟩
    have da : dB a ≤ n' := ds
    have kk : kB ks a = true := kst
    have ww : wB a = true := wB_of wst a (by simp [Stm.bodies])
    have wn : 0 ≤ n ∧ n ≤ 3 := by
      rw [wS, Bool.and_eq_true, Bool.and_eq_true] at wst
      exact ⟨of_decide_eq_true wst.1.1, of_decide_eq_true wst.1.2⟩
    obtain ⟨m, rfl⟩ : ∃ m : Nat, n = m := ⟨n.toNat, by omega⟩
    have sz1 : nS (.rep m a) = 1 + m * nB a := by rw [nS]; rfl
    rw [sz1] at ss
    obtain ⟨pa, rfl, hpa⟩ := path_inv hp
    refine ⟨_, rfl, sa, _, _, _, rfl, rfl, smT R.sm hsa, at1, _, rfl, by omega, by omega, ?_⟩
    refine for_it (walk_range (lo := 0) (n := m)) (fun i σ H' => RunAt K H0 H' A (rept (goB e (pth ++ [0]) 0 a) i s) ∧ ROk e ks (rept (goB e (pth ++ [0]) 0 a) i s) ∧ TS K H H' ∧ ∃ v4, σ = [some (.ref A.r), some (.ref sa), some (.ref pa), some (.str "repeat"), v4])
      ⟨⟨W, R⟩, k, fun _ _ h => h, _, rfl⟩ (fun _ _ _ _ _ => trivial) ?_ ?_
    · rintro i x σ H1 H2 hi ⟨⟨W1, R1⟩, k1, ts, v4, rfl⟩ ⟨rfl, rfl⟩
      have zr := sz_rept e a (pth ++ [0]) 0 s i
      have i1 : (i + 1) * nB a ≤ m * nB a := Nat.mul_le_mul_right _ hi
      have i2 : (i + 1) * nB a = i * nB a + nB a := Nat.succ_mul ..
      refine ⟨_, rfl, A.r, W1.dr, _, rfl, R1.r, rfl, _, rfl, sa, _, _, _, rfl, rfl, smT R1.sm hsa, at2, _, rfl, (by show 1 ≤ sizeLine; decide), fun p1 hp1 => ?_⟩
      refine path_snoc (smT (smNew1 hp1 _) (ts _ _ hpa)) (SqT.of upd_same) (Nat.le_of_lt (small6 (by omega))) fun v H3 s3 hh => ?_
      have e3 := (smNew1 hp1 (.tup [.int 0])).trans s3
      refine ⟨H0, A, e, ks, _, a, _, rfl, ⟨W1, R1.keep e3⟩, VE, k1, d1, hh, da, kk, ww, by omega, by rw [List.length_append]; show pth.length + 1 + 2 * n' ≤ 900; omega, fun H' R' k' ts' => ?_⟩
      exact ⟨R', k', fun a xs h => ts' a xs (smT e3 (ts a xs h)), _, rfl⟩
    · rintro σ H1 ⟨R1, k1, ts, v4, rfl⟩
      exact q _ R1 k1 ts
  | stop =>
    refine ⟨_, rfl, rfl, _, rfl, ifF (decide_eq_false fun z => absurd (V.str.inj z) (by show ("stop" : Str) ≠ "read"; decide)) ?_⟩
    refine ⟨_, rfl, rfl, _, rfl, ifF (decide_eq_false fun z => absurd (V.str.inj z) (by show ("stop" : Str) ≠ "set"; decide)) ?_⟩
    refine ⟨_, rfl, rfl, _, rfl, ifF (decide_eq_false fun z => absurd (V.str.inj z) (by show ("stop" : Str) ≠ "copy"; decide)) ?_⟩
    refine ⟨_, rfl, rfl, _, rfl, ifF (decide_eq_false fun z => absurd (V.str.inj z) (by show ("stop" : Str) ≠ "print"; decide)) ?_⟩
    refine ⟨_, rfl, rfl, _, rfl, ifF (decide_eq_false fun z => absurd (V.str.inj z) (by show ("stop" : Str) ≠ "say"; decide)) ?_⟩
    refine ⟨_, rfl, rfl, _, rfl, ifF (decide_eq_false fun z => absurd (V.str.inj z) (by show ("stop" : Str) ≠ "wait"; decide)) ?_⟩
    refine ⟨_, rfl, rfl, _, rfl, ifF (decide_eq_false fun z => absurd (V.str.inj z) (by show ("stop" : Str) ≠ "if"; decide)) ?_⟩
    refine ⟨_, rfl, rfl, _, rfl, ifF (decide_eq_false fun z => absurd (V.str.inj z) (by show ("stop" : Str) ≠ "same"; decide)) ?_⟩
    refine ⟨_, rfl, rfl, _, rfl, ifF (decide_eq_false fun z => absurd (V.str.inj z) (by show ("stop" : Str) ≠ "repeat"; decide)) ?_⟩
    refine ⟨_, rfl, A.r, _, W.dr, _, rfl, R.r, k_Runner T, na_Runner_stopped T, (by show 6 < 1000; decide), ?_⟩
    exact q _ ⟨_, R.upStop true⟩ k.of (ts_upd _ R.r trivial)
theorem sc_Runner_execute : FnScope ["self", "body", "path", "place", "one"] ["self", "body", "path"] (defScope s_Runner_execute) := ⟨rfl, rfl, rfl, by decide +kernel, rfl, by decide +kernel, by decide +kernel⟩
theorem ok_execute (T : Top w K mg) {n k : Nat} (ih : Met P w K mg base CX0 (k + 6) (He.ga K "Runner") "execute" (spExec K n)) : Met P w K mg base CX0 (k + 9) (He.ga K "Runner") "execute" (spExec K (n + 1)) := by
  refine met_0 (f_Runner_execute T) (k_Runner T) (me_Runner_execute T) sc_Runner_execute (fun _ _ _ _ _ _ us hl => match us, hl with | [_, _, _], _ => rfl) (fun vs H Q E h => match vs, h with | [_, _, _], _ => rfl) (fun cdv A outer s H vs Q E hr h => ?_)
  match vs, h with
  | [x, b, p], h =>
  obtain ⟨H0, A, e, ks, s, l, pth, rfl, ⟨W, R⟩, VE, k, hb, hp, hd, kl, wl, sl, hl, q⟩ := h
  refine ⟨_, (pss_one (ps_for PassesOwn.never rfl (pi_enumA (by rfl) (z_enumerate T) (pa_cons (pv 1) pa_nil)) (pg_tup rfl (pgs_cons (pg_name (i := 3) sc_Runner_execute.nd rfl (Or.inl rfl)) (pgs_cons (pg_name (i := 4) sc_Runner_execute.nd rfl (Or.inl rfl)) pgs_nil)))
      (pss_one (ps_if (pt_not (pt_val (pe_fld (pv 0) rfl)))
      (pss_one (ps_expr (pmt (ok_statement T ih) hr (pv 0) (pa_cons (pv 4) (pa_cons (pe_op op_catG (pv 2) (pe_tup (pa_cons (pv 3) pa_nil))) pa_nil)))))
      pss_nil)))), ?_⟩
  obtain ⟨ba, xs, rfl, hba, hx⟩ := Dp.tup_inv hb
  have lx : xs.length = l.length := by rw [DpAll.len hx, encB_map, List.length_map]
  refine ⟨_, rfl, ?_⟩
  refine enumA_of (.inr hba) R.sm fun J wk => ?_
  refine for_it wk (fun i σ H' => RunAt K H0 H' A (goB e pth 0 (l.take i) s) ∧ ROk e ks (goB e pth 0 (l.take i) s) ∧ TS K H H' ∧ ∃ v3 v4, σ = [some (.ref A.r), some (.ref ba), some p, v3, v4])
    ⟨⟨W, R⟩, k, fun _ _ h => h, _, _, rfl⟩ (fun i σ H' _ h => let ⟨⟨_, R⟩, _⟩ := h; R.sm) ?_ ?_
  · rintro i x σ H1 H2 hi ⟨⟨W1, R1⟩, k1, ts, v3, v4, rfl⟩ ⟨t, y, z, rfl, ht, rfl, hy, hz⟩
    obtain rfl : V.int (i : Nat) = y := Option.some.inj hy
    obtain ⟨d, hd1, hd2⟩ := DpAll.getV hx hz
    obtain ⟨st, hst, rfl⟩ := encB_get hd1
    have e2 : Same H1 (upd H1 t (.tup [.int (i : Nat), z])) := smNew1 ht _
    have R2 := R1.keep e2
    have ft := goB_take (e := e) (p := pth) hst s
    have nt := nB_take hst
    have nl := nB_le (l := l) (i + 1)
    have zt := sz_B e (l.take i) pth 0 s
    have dm := dB_mem (List.mem_of_getElem? hst)
    have km := kB_mem kl (List.mem_of_getElem? hst)
    obtain ⟨u, eu⟩ : ∃ u, u = goB e pth 0 (l.take i) s := ⟨_, rfl⟩
    rw [← eu] at R1 R2 k1 ft zt
    refine ⟨t, _, rfl, SqT.of upd_same, rfl, _, _, rfl, _, _, rfl, rfl, ?_⟩
    refine ⟨_, rfl, A.r, _, W1.dr, _, _, rfl, R2.r, k_Runner T, na_Runner_stopped T, rfl, ?_⟩
    rw [ft]
    have ts2 : TS K H (upd H1 t (.tup [.int (i : Nat), z])) := fun a xs h => smT e2 (ts a xs h)
    refine ⟨_, rfl, ?_⟩
    refine ifB (fun hs => ?_) (fun hs => ?_)
    · have hs' : u.stop = false := by simpa using hs
      rw [hs', if_neg Bool.false_ne_true]
      obtain ⟨pa, rfl, hpa⟩ := path_inv (dp_ts ts2 hp (noL_path _))
      refine ⟨_, rfl, A.r, W1.dr, _, rfl, R2.r, rfl, _, rfl, _, rfl, _, rfl, (by show 1 ≤ sizeLine; decide), fun p1 hp1 => ?_⟩
      refine path_snoc (smT (smNew1 hp1 _) hpa) (SqT.of upd_same) (Nat.le_of_lt (small6 (by omega))) fun here H3 s3 hh => ?_
      have e3 := (smNew1 hp1 (.tup [.int (i : Nat)])).trans s3
      refine ⟨H0, A, e, ks, u, st, _, rfl, ⟨W1, R2.keep e3⟩, VE, k1, hd2, hh, by omega, km, wB_all wl _ (List.mem_of_getElem? hst), by omega, by rw [List.length_append]; show pth.length + 1 + 2 * n + 1 ≤ 900; omega, fun H' R' k' ts' => ?_⟩
      exact ⟨R', k', fun a xs h => ts' a xs (smT e3 (ts2 a xs h)), _, _, rfl⟩
    · have hs' : u.stop = true := by simpa using hs
      rw [if_pos hs']
      exact ⟨⟨W1, R2⟩, k1, ts2, _, _, rfl⟩
  · rintro σ H1 ⟨R1, k1, ts, v3, v4, rfl⟩
    rw [lx, List.take_length] at R1 k1
    exact q _ R1 k1 ts
theorem c_execute (T : Top w K mg) : ∀ n, Met P w K mg base CX0 (3 * n + 6) (He.ga K "Runner") "execute" (spExec K n)
  | 0 => met_never (f_Runner_execute T) (k_Runner T) (me_Runner_execute T) (ps := ["self", "body", "path"]) (fun _ _ _ _ _ _ us hl => match us, hl with | [_, _, _], _ => rfl) fun vs H Q E h => by
      match vs, h with
      | [x, b, p], h =>
      obtain ⟨_, _, _, _, _, l, _, _, _, _, _, _, _, hn, _⟩ := h
      have := dB_one l
      omega
  | n + 1 => ok_execute T (k := 3 * n) (c_execute T n)
end
end RM

set_option Elab.async false
set_option linter.all false
set_option maxRecDepth 100000
set_option maxHeartbeats 4000000
set_option pp.maxSteps 600
set_option pp.deepTerms false
namespace RM
open PySem PySem.Spec PyProof.Rows L2
theorem off_none {H H' : Hp} {a : Addr} {o : HO} (off : Off a H H') (ha : H' a = some o) (b : Addr) (hb : H' b = none) : H b = none := by
  cases e : H b with
  | none => rfl
  | some u =>
    by_cases z : b = a
    · rw [z, ha] at hb; cases hb
    · rw [off b u z e] at hb; cases hb
section
variable {P : Program} {w : World} {K : PySem.W.Frag} {mg : Str → Option Value} {base : Heap}
/-! ### Outcome(..) -/
def spOutInit (K : PySem.W.Frag) : Sp := fun vs H Q _ => match vs with
  | [x, f] => ∃ a dx, x = .ref a ∧ H a = some (.ins (He.ga K "Outcome") dx []) ∧
    ∀ H' pt wl ll, Off a H H' → H' a = some (.ins (He.ga K "Outcome") dx [("printed", .ref pt), ("went", .ref wl), ("looked", .ref ll), ("waits", .int 0), ("ended", .non)]) → H' pt = some (.tup []) → H' wl = some (.lst [f]) → H' ll = some (.lst []) →
      H wl = none → H ll = none → wl ≠ ll → Q .non H'
  | _ => False
theorem sc_Outcome_init : FnScope ["self", "first"] ["self", "first"] (defScope s_Outcome_init) := ⟨rfl, rfl, rfl, by decide +kernel, rfl, by decide +kernel, by decide +kernel⟩
theorem c_Outcome_init (T : Top w K mg) : Mak P w K mg base CX0 1 "Outcome" (He.ga K "Outcome") (spOutInit K) := by
  refine mak_0 (f_Outcome_init T) (mk_Outcome T) (g_Outcome T) sc_Outcome_init (fun _ _ _ _ _ _ us hl => match us, hl with | [_, _], _ => rfl) (fun vs H Q E h => match vs, h with | [_, _], _ => rfl) (fun cdv A outer s H vs Q E hr h => ?_)
  match vs, h with
  | [x, f], h =>
  obtain ⟨a, dx, rfl, ha, q⟩ := h
  refine ⟨_, (pss_cons (ps_fld (pv 0) (pe_tup pa_nil) rfl)
    (pss_cons (ps_fld (pv 0) (pe_lst (pa_cons (pv 1) pa_nil)) rfl)
    (pss_cons (ps_fld (pv 0) (pe_lst pa_nil) rfl)
    (pss_cons (ps_fld (pv 0) pe_int rfl)
    (pss_one (ps_fld (pv 0) pe_non rfl)))))), ?_⟩
  refine ⟨(by show 0 ≤ sizeLine; decide), fun pt hpt => ?_⟩
  have apt : a ≠ pt := ne_of_none ha hpt
  refine ⟨_, rfl, a, He.ga K "Outcome", dx, _, rfl, by rw [upd_ne apt]; exact ha, k_Outcome T, na_Outcome_printed T, (by show 0 < 1000; decide), ?_⟩
  obtain ⟨H1, e1⟩ : ∃ H1, H1 = upd (upd H pt (.tup [])) a (.ins (He.ga K "Outcome") dx (putF "printed" (.ref pt) [])) := ⟨_, rfl⟩
  have o1 : Off a H H1 := by rw [e1]; exact (off_sm (smNew1 hpt _)).trans off_upd
  have ha1 : H1 a = some (.ins (He.ga K "Outcome") dx [("printed", .ref pt)]) := by rw [e1, upd_same]; rfl
  have pt1 : H1 pt = some (.tup []) := by rw [e1, upd_ne (Ne.symm apt), upd_same]
  have n1 := off_none o1 ha1
  rw [← e1]
  clear e1
  refine ⟨_, rfl, (by show 1 ≤ sizeLine; decide), fun wl hwl => ?_⟩
  have awl : a ≠ wl := ne_of_none ha1 hwl
  refine ⟨_, rfl, a, He.ga K "Outcome", dx, _, rfl, by rw [upd_ne awl]; exact ha1, k_Outcome T, na_Outcome_went T, (by show 1 < 1000; decide), ?_⟩
  obtain ⟨H2, e2⟩ : ∃ H2, H2 = upd (upd H1 wl (.lst [f])) a (.ins (He.ga K "Outcome") dx (putF "went" (.ref wl) [("printed", .ref pt)])) := ⟨_, rfl⟩
  have o2 : Off a H1 H2 := by rw [e2]; exact (off_sm (smNew1 hwl _)).trans off_upd
  have ha2 : H2 a = some (.ins (He.ga K "Outcome") dx [("printed", .ref pt), ("went", .ref wl)]) := by rw [e2, upd_same]; rfl
  have wl2 : H2 wl = some (.lst [f]) := by rw [e2, upd_ne (Ne.symm awl), upd_same]
  have n2 := off_none o2 ha2
  rw [← e2]
  clear e2
  refine ⟨(by show 0 ≤ sizeLine; decide), fun ll hll => ?_⟩
  have all : a ≠ ll := ne_of_none ha2 hll
  refine ⟨_, rfl, a, He.ga K "Outcome", dx, _, rfl, by rw [upd_ne all]; exact ha2, k_Outcome T, na_Outcome_looked T, (by show 2 < 1000; decide), ?_⟩
  obtain ⟨H3, e3⟩ : ∃ H3, H3 = upd (upd H2 ll (.lst [])) a (.ins (He.ga K "Outcome") dx (putF "looked" (.ref ll) [("printed", .ref pt), ("went", .ref wl)])) := ⟨_, rfl⟩
  have o3 : Off a H2 H3 := by rw [e3]; exact (off_sm (smNew1 hll _)).trans off_upd
  have ha3 : H3 a = some (.ins (He.ga K "Outcome") dx [("printed", .ref pt), ("went", .ref wl), ("looked", .ref ll)]) := by rw [e3, upd_same]; rfl
  have ll3 : H3 ll = some (.lst []) := by rw [e3, upd_ne (Ne.symm all), upd_same]
  rw [← e3]
  clear e3
  refine ⟨_, rfl, a, He.ga K "Outcome", dx, _, rfl, ha3, k_Outcome T, na_Outcome_waits T, (by show 3 < 1000; decide), ?_⟩
  refine ⟨_, rfl, a, He.ga K "Outcome", dx, _, rfl, upd_same, k_Outcome T, na_Outcome_ended T, (by show 4 < 1000; decide), ?_⟩
  have o4 : ∀ o o' : HO, Off a H3 (upd (upd H3 a o) a o') := fun o o' => off_upd.trans off_upd
  have o24 := fun o o' => o3.trans (o4 o o')
  refine q _ pt wl ll ((o1.trans o2).trans (o24 _ _)) ?_ ?_ ?_ ?_ (n1 _ hwl) (n1 _ (n2 _ hll)) (fun z => by rw [z, hll] at wl2; cases wl2)
  · rw [upd_same]
    rfl
  · exact (o2.trans (o24 _ _)) _ _ (Ne.symm apt) pt1
  · exact o24 _ _ _ _ (Ne.symm awl) wl2
  · exact o4 _ _ _ _ (Ne.symm all) ll3
/-! ### Runner(..) -/
def iniS (m : WM) : RS := ⟨[], m, [], [wVals m], [], 0, false⟩
def spRunInit (K : PySem.W.Frag) : Sp := fun vs H Q _ => match vs with
  | [x, y, z, u] => ∃ a dx H0 b m ch pn, x = .ref a ∧ y = .ref b ∧ z = .ref ch ∧ u = .ref pn ∧ H a = some (.ins (He.ga K "Runner") dx []) ∧ Same H0 H ∧ H0 a = none ∧ SurAt K H b m ∧
    ∀ H' pl hd oc wl ll, Off a H H' → RunAt K H0 H' ⟨a, pl, hd, oc, wl, ll, ch, pn⟩ (iniS m) → Q .non H'
  | _ => False
theorem sc_Runner_init : FnScope ["self", "surroundings", "changes", "schedule"] ["self", "surroundings", "changes", "schedule"] (defScope s_Runner_init) := ⟨rfl, rfl, rfl, by decide +kernel, rfl, by decide +kernel, by decide +kernel⟩
theorem c_Runner_init (T : Top w K mg) : Mak P w K mg base CX0 9 "Runner" (He.ga K "Runner") (spRunInit K) := by
  refine mak_0 (f_Runner_init T) (mk_Runner T) (g_Runner T) sc_Runner_init (fun _ _ _ _ _ _ us hl => match us, hl with | [_, _, _, _], _ => rfl) (fun vs H Q E h => match vs, h with | [_, _, _, _], _ => rfl) (fun cdv A outer s H vs Q E hr h => ?_)
  match vs, h with
  | [x, y, z, u], h =>
  obtain ⟨a, dx, H0, b, m, ch, pn, rfl, rfl, rfl, rfl, ha, e0, na, sb, q⟩ := h
  refine ⟨_, (pss_cons (ps_fld (pv 0) (pe_op (op_addG (E := E0) (two_Surroundings_Change T) (o_Surroundings_add T).calm (fun _ _ _ _ _ _ _ h => h.elim) hr) (pv 1) (pmk (c_Change_init T) hr (pa_cons pe_dnewK pa_nil))) rfl)
    (pss_cons (ps_fld (pv 0) (pv 2) rfl)
    (pss_cons (ps_fld (pv 0) (pv 3) rfl)
    (pss_cons (ps_fld (pv 0) pe_dnewK rfl)
    (pss_cons (ps_fld (pv 0) (pmk (c_Outcome_init T) hr (pa_cons (pmt0 (c_Surroundings_state T) hr (pv 1)) pa_nil)) rfl)
    (pss_one (ps_fld (pv 0) pe_bl rfl))))))), ?_⟩
  refine ⟨_, rfl, fun d hd => ?_⟩
  intro x2 dx2 hx2 hdx2 hne2
  have mI := mk_in (C := He.ga K "Change") hx2 hdx2 hne2
  refine ⟨x2, dx2, d, [], rfl, rfl, upd_same, mI _ _ upd_same, ⟨fun _ h => by simp at h, List.nodup_nil⟩, Nat.zero_le _, Nat.zero_le _, fun H1 m2 off mp pm => ⟨rfl, ?_⟩⟩
  obtain rfl : m2 = [] := List.Perm.eq_nil pm
  have s1 : Same H H1 := (smNew1 hd _).trans (mk_sm hx2 hdx2 off)
  have sb1 := sb.keep s1
  obtain ⟨⟨db, pb, hb, _⟩, _⟩ := id sb1
  obtain ⟨dc, pc, hc, _⟩ := id mp
  refine ⟨b, x2, db, dc, _, _, rfl, rfl, hb, hc, b, x2, m, [], rfl, rfl, sb1, ⟨mp, Nat.zero_le _⟩, fun _ pl H2 s2 npl spl => ?_, fun k hk => by cases hk⟩
  obtain ⟨⟨dp, p, hpl, hp, okm, sm⟩, l1, l4⟩ := id spl
  have s12 := s1.trans s2
  have ha2 := s12 _ _ ha
  have npl0 : H0 pl = none := e0.free (s1.free npl)
  have apl : pl ≠ a := fun z => by rw [z, s1 _ _ ha] at npl; cases npl
  refine ⟨_, rfl, a, He.ga K "Runner", dx, _, rfl, ha2, k_Runner T, na_Runner_place T, (by show 0 < 1000; decide), ?_⟩
  refine ⟨_, rfl, _, rfl, a, He.ga K "Runner", dx, _, rfl, upd_same, k_Runner T, na_Runner_choices T, (by show 1 < 1000; decide), ?_⟩
  refine ⟨_, rfl, _, rfl, a, He.ga K "Runner", dx, _, rfl, upd_same, k_Runner T, na_Runner_plan T, (by show 2 < 1000; decide), ?_⟩
  obtain ⟨H5, e5⟩ : ∃ H5, H5 = upd (upd (upd H2 a (.ins (He.ga K "Runner") dx (putF "place" (.ref pl) []))) a (.ins (He.ga K "Runner") dx (putF "choices" (.ref ch) (putF "place" (.ref pl) [])))) a (.ins (He.ga K "Runner") dx (putF "plan" (.ref pn) (putF "choices" (.ref ch) (putF "place" (.ref pl) [])))) := ⟨_, rfl⟩
  have o5 : Off a H2 H5 := by rw [e5]; exact (off_upd.trans off_upd).trans off_upd
  have ha5 : H5 a = some (.ins (He.ga K "Runner") dx [("place", .ref pl), ("choices", .ref ch), ("plan", .ref pn)]) := by rw [e5, upd_same]; rfl
  rw [← e5]
  clear e5
  have n5 := off_none o5 ha5
  -- held
  refine fun hd hhd => ?_
  have ahd : a ≠ hd := ne_of_none ha5 hhd
  refine ⟨_, rfl, a, He.ga K "Runner", dx, _, rfl, by rw [upd_ne ahd]; exact ha5, k_Runner T, na_Runner_held T, (by show 3 < 1000; decide), ?_⟩
  obtain ⟨H6, e6⟩ : ∃ H6, H6 = upd (upd H5 hd (.dK [])) a (.ins (He.ga K "Runner") dx (putF "held" (.ref hd) [("place", .ref pl), ("choices", .ref ch), ("plan", .ref pn)])) := ⟨_, rfl⟩
  have o6 : Off a H5 H6 := by rw [e6]; exact (off_sm (smNew1 hhd _)).trans off_upd
  have ha6 : H6 a = some (.ins (He.ga K "Runner") dx [("place", .ref pl), ("choices", .ref ch), ("plan", .ref pn), ("held", .ref hd)]) := by rw [e6, upd_same]; rfl
  have hd6 : H6 hd = some (.dK []) := by rw [e6, upd_ne (Ne.symm ahd), upd_same]
  rw [← e6]
  clear e6
  have n6 := off_none o6 ha6
  -- outcome
  have o06 : Off a H H6 := ((off_sm s12).trans o5).trans o6
  have ba : b ≠ a := fun z => by
    have h1 := s1.trans s2
    have : H2 b = some (.ins (He.ga K "Surroundings") db [("now", .ref pb)]) := s2 _ _ hb
    rw [z, ha2] at this
    injection this with h3
    injection h3 with _ _ h4
    cases h4
  have sb6 : SurAt K H6 b m := by
    obtain ⟨⟨d1, q1, h1, h2, h3⟩, h4⟩ := id sb
    exact ⟨⟨d1, q1, o06 _ _ ba h1, o06 _ _ (fun z => by rw [z, ha] at h2; cases h2) h2, h3⟩, h4⟩
  obtain ⟨⟨db6, qb6, hb6, _⟩, _⟩ := id sb6
  refine ⟨_, rfl, b, db6, _, rfl, hb6, rfl, b, m, rfl, sb6.1, sb6.2.2, fun t H7 s7 ht7 => ?_⟩
  intro oc dq hoc hdq hne
  have mI7 := mk_in (C := He.ga K "Outcome") hoc hdq hne
  refine ⟨oc, dq, rfl, upd_same, fun H8 pt wl ll o8 oc8 pt8 wl8 ll8 nwl nll wll => ⟨rfl, ?_⟩⟩
  have s78 := mk_sm (C := He.ga K "Outcome") (H' := H8) hoc hdq (fun b u hb hu => o8 b u hb hu)
  have s68 := s7.trans s78
  have noc6 := s7.free hoc
  have ha8 := s68 _ _ ha6
  have aoc : a ≠ oc := ne_of_none ha6 noc6
  refine ⟨_, rfl, a, He.ga K "Runner", dx, _, rfl, ha8, k_Runner T, na_Runner_outcome T, (by show 4 < 1000; decide), ?_⟩
  refine ⟨_, rfl, a, He.ga K "Runner", dx, _, rfl, upd_same, k_Runner T, na_Runner_stopped T, (by show 5 < 1000; decide), ?_⟩
  obtain ⟨H9, e9⟩ : ∃ H9, H9 = upd (upd H8 a (.ins (He.ga K "Runner") dx (putF "outcome" (.ref oc) [("place", .ref pl), ("choices", .ref ch), ("plan", .ref pn), ("held", .ref hd)]))) a (.ins (He.ga K "Runner") dx (putF "stopped" (.bl false) (putF "outcome" (.ref oc) [("place", .ref pl), ("choices", .ref ch), ("plan", .ref pn), ("held", .ref hd)]))) := ⟨_, rfl⟩
  have o9 : Off a H8 H9 := by rw [e9]; exact off_upd.trans off_upd
  have ha9 : H9 a = some (.ins (He.ga K "Runner") dx [("place", .ref pl), ("choices", .ref ch), ("plan", .ref pn), ("held", .ref hd), ("outcome", .ref oc), ("stopped", .bl false)]) := by rw [e9, upd_same]; rfl
  rw [← e9]
  clear e9
  have o69 : Off a H6 H9 := (off_sm s68).trans o9
  have o09 : Off a H H9 := o06.trans o69
  have o29 : Off a H2 H9 := (o5.trans o6).trans o69
  have nH : ∀ c, H6 c = none → H0 c = none := fun c hc => e0.free (s12.free (n5 _ (n6 _ hc)))
  have n7 : ∀ c, H7 c = none → H6 c = none := fun c hc => s7.free hc
  have n87 : ∀ {c}, upd (upd H7 dq (.own oc)) oc (.ins (He.ga K "Outcome") dq []) c = none → H7 c = none := fun hc => mI7.free hc
  refine q H9 pl hd oc wl ll o09 ⟨⟨dx, dp, dq, p, pt, [.ref t], []⟩, ?_⟩
  have pa : p ≠ a := fun z => by rw [z, ha2] at hp; cases hp
  refine { sm := fun c u hc => ?_, fr := na, fp := npl0, fh := e0.free (s12.free (n5 _ hhd)), fo := nH _ noc6, fw := nH _ (n7 _ (n87 nwl)), fl := nH _ (n7 _ (n87 nll)), r := ha9, pl := o29 _ _ apl hpl, now := o29 _ _ pa hp, ph := ?_, held := o69 _ _ (Ne.symm ahd) hd6, oc := o9 _ _ (Ne.symm aoc) oc8, pt := ?_, wl := ?_, dw := ?_, ll := ?_, dl := .nil, wll := wll }
  · exact o09 _ _ (fun z => by rw [z, na] at hc; cases hc) (e0 _ _ hc)
  · exact ne_of_none (o5 _ _ pa hp) hhd
  · exact SqT.of (o9 _ _ (fun z : pt = a => by rw [z, ha8] at pt8; cases pt8) pt8)
  · exact o9 _ _ (fun z : wl = a => by rw [z, ha8] at wl8; cases wl8) wl8
  · refine .cons (st_dp ?_) .nil
    have t8 : H8 t = some (.tup (m.map fun q => V.int q.2)) := s78 _ _ ht7
    have : H9 t = some (.tup (m.map fun q => V.int q.2)) := o9 _ _ (fun z => by rw [z, ha8] at t8; cases t8) t8
    refine SqT.of ?_
    rw [this]
    unfold wVals
    rw [List.map_map]
    rfl
  · exact o9 _ _ (fun z : ll = a => by rw [z, ha8] at ll8; cases ll8) ll8
/-! ### run -/
/-- an outcome that tells of s -/
def OutAt (K : PySem.W.Frag) (H : Hp) (o : Addr) (s : RS) : Prop := ∃ dq pt wl ll pl ws ls, H o = some (.ins (He.ga K "Outcome") dq [("printed", .ref pt), ("went", .ref wl), ("looked", .ref ll), ("waits", .int (s.waits : Nat)), ("ended", .ref pl)]) ∧
  SqT K H pt (s.printed.map V.int) ∧ H wl = some (.lst ws) ∧ DpAll K H ws (s.went.map stD) ∧ H ll = some (.lst ls) ∧ DpAll K H ls (s.seen.map seenD) ∧ SurAt K H pl s.now ∧ s.went.length ≤ 1000 ∧ sz s ≤ 5000
theorem OutAt.keep {H H' : Hp} {o : Addr} {s : RS} (e : Same H H') (h : OutAt K H o s) : OutAt K H' o s :=
  let ⟨dq, pt, wl, ll, pl, ws, ls, h1, h2, h3, h4, h5, h6, h7, h8⟩ := h
  ⟨dq, pt, wl, ll, pl, ws, ls, e _ _ h1, smT e h2, e _ _ h3, DpAll.keep e h4, e _ _ h5, DpAll.keep e h6, h7.keep e, h8⟩
theorem kB_reads {ks : List Str} {l : List Stm} (h : ∀ k ∈ (readsOf l).map (·.2), k ∈ ks) : kB ks l = true := by
  refine kB_of ks l [] 0 fun q hq v k e => h k ?_
  refine List.mem_map.mpr ⟨(q.1, k), List.mem_filterMap.mpr ⟨q, hq, ?_⟩, rfl⟩
  unfold readOf
  rw [e]
theorem lackL_all {m : WM} {ks : List Str} (h : lackL m ks = none) : ∀ k ∈ ks, k ∈ wKeys m := fun k hk => by
  have := List.find?_eq_none.mp h k hk
  simpa using this
theorem lackA_none {m : WM} {ks : List Str} {gs : List WM} (h : lackA m ks gs = none) : (∀ k ∈ ks, k ∈ wKeys m) ∧ ∀ g ∈ gs, ∀ k ∈ wKeys g, k ∈ wKeys m := by
  unfold lackA at h
  cases e : lackL m ks with
  | some k => rw [e] at h; cases h
  | none =>
    rw [e] at h
    exact ⟨lackL_all e, fun g hg => lack_none (List.findSome?_eq_none_iff.mp h g hg)⟩
def spRun (K : PySem.W.Frag) : Sp := fun vs H Q E => match vs with
  | [x, y, z, u] => ∃ a l b m c cas gs p its plan, x = .ref a ∧ y = .ref b ∧ z = .ref c ∧ u = .ref p ∧ PrgAt K H a l ∧ wB l = true ∧ dB l ≤ 4 ∧ cB l ≤ 60 ∧ SurAt K H b m ∧ SqA K H c (cas.map V.ref) ∧ Paired (fun x g => ChgAt K H x g) cas gs ∧
    SqA K H p (its.map V.ref) ∧ Paired (fun a ns => SqA K H a (ns.map V.int)) its plan ∧ plan.flatten.length ≤ 900 ∧
    ∀ ks, RM.KeysOf ks ((readsOf l).map (·.2)) →
      (lackA m ks gs = none → offP gs.length plan = none → ∀ o H', Same H H' → H o = none → OutAt K H' o (goB ⟨gs, plan⟩ [] 0 l (iniS m)) → Q (.ref o) H') ∧
      (∀ k, lackA m ks gs = some k → ∀ d H', Same H H' → H' d = some (.xd [("key", .str k)]) → E (.ref (He.ga K "NoKey")) (some d) H') ∧
      (lackA m ks gs = none → ∀ i : Nat, offP gs.length plan = some i → ∀ d H', Same H H' → H' d = some (.xd [("item", .int (i : Int))]) → E (.ref (He.ga K "BadSchedule")) (some d) H')
  | _ => False
theorem off_in {n : Nat} {plan : List (List Int)} (h : offP n plan = none) : ∀ it ∈ plan, ∀ i ∈ it, 0 ≤ i ∧ i < (n : Int) := fun it hit i hi => by
  have h1 := List.findIdx?_eq_none_iff.mp h it hit
  have h2 := List.any_eq_false.mp h1 i hi
  by_cases h0 : 0 ≤ i
  · by_cases h3 : i < (n : Int)
    · exact ⟨h0, h3⟩
    · rw [decide_eq_false h3, Bool.and_false] at h2
      exact absurd rfl h2
  · rw [decide_eq_false h0] at h2
    exact absurd rfl h2
theorem sc_run : FnScope ["program", "surroundings", "changes", "schedule", "runner"] ["program", "surroundings", "changes", "schedule"] (defScope s_run) := ⟨rfl, rfl, rfl, by decide +kernel, rfl, by decide +kernel, by decide +kernel⟩
theorem b_run (T : Top w K mg) : BodyX P w K mg base ["program", "surroundings", "changes", "schedule", "runner"] "run" s_run (He.ga K "run") 19 (spRun K) := by
  intro cdv A outer s H vs Q E hr h
  match vs, h with
  | [x, y, z, u], h =>
  obtain ⟨a, l, b, m, c, cas, gs, p, its, plan, rfl, rfl, rfl, rfl, pa, wl', hd', hc, sb, hcs, pcs, hp, pp, fl, q⟩ := h
  have sm : (wKeys m).Nodup := sb.ok.1.2
  refine ⟨_, (pss_cons (ps_expr (pcX (takes_of rfl rfl rfl rfl) (c_check_keys T) hr (pa_cons (pv 0) (pa_cons (pv 1) (pa_cons (pv 2) pa_nil)))))
    (pss_cons (ps_expr (pcX (takes_of rfl rfl rfl rfl) (c_check_schedule T) hr (pa_cons (pv 2) (pa_cons (pv 3) pa_nil))))
    (pss_cons (ps_set (i := 4) sc_run.nd rfl (Or.inl rfl) (pmk (c_Runner_init T) hr (pa_cons (pv 1) (pa_cons (pv 2) (pa_cons (pv 3) pa_nil)))))
    (pss_cons (ps_expr (pmt (c_execute T 4) hr (pv 4) (pa_cons (pe_fld (pv 0) rfl) (pa_cons (pe_tup pa_nil) pa_nil))))
    (pss_cons (ps_fld (pe_fld (pv 4) rfl) (pe_fld (pv 4) rfl) rfl)
    (pss_one (ps_ret (pe_fld (pv 4) rfl)))))))), ?_⟩
  refine ⟨_, rfl, _, rfl, _, rfl, a, l, b, m, c, cas, gs, rfl, rfl, rfl, pa, hd', by omega, sb, hcs, pcs, fun ks hks => ⟨fun nl H1 e1 => ?_, fun k hk d H' e hd => (q ks hks).2.1 k hk d H' e hd⟩⟩
  have lc : (cas.map V.ref).length = gs.length := by rw [List.length_map]; exact pcs.length
  obtain ⟨nk, ng⟩ := lackA_none nl
  refine ⟨_, rfl, _, rfl, c, _, p, its, plan, rfl, rfl, sqA_sm e1 hcs, sqA_sm e1 hp, paired_mono pp fun _ _ h => sqA_sm e1 h, fun no H2 e2 => ?_, fun i hi d H' e hd => (q ks hks).2.2 nl i (by rw [lc] at hi; exact hi) d H' (e1.trans e) hd⟩
  rw [lc] at no
  have e12 := e1.trans e2
  refine ⟨_, rfl, _, rfl, _, rfl, ?_⟩
  intro x dx hx hdx hne
  have mI := mk_in (C := He.ga K "Runner") hx hdx hne
  refine ⟨x, dx, H2, b, m, c, p, rfl, rfl, rfl, rfl, upd_same, mI, hx, sb.keep (e12.trans mI), fun H3 pl hd oc wl ll off R => ⟨rfl, ?_⟩⟩
  obtain ⟨W, R⟩ := R
  obtain ⟨dp, v, ha, hv⟩ := pa.keep (e12.trans R.sm)
  obtain ⟨dp', v', ha', hv'⟩ := pa.keep e12
  have ev : v' = v := by
    have := R.sm _ _ ha'
    rw [ha] at this
    injection this with h1
    injection h1 with _ _ h2
    injection h2 with h3
    injection h3 with _ h4
    exact h4.symm
  subst ev
  have lm : (wKeys m).length = m.length := List.length_map ..
  have EO : EOk ⟨gs, plan⟩ (wKeys m) := ⟨fun g hg => ⟨(let ⟨_, _, h⟩ := paired_mem pcs g hg; h.ok.1), ng g hg⟩, off_in no, sb.ok.2, by rw [lm]; exact sb.2.1, by rw [lm]; exact sb.2.2⟩
  have VE : EnvAt K H2 ⟨x, pl, hd, oc, wl, ll, c, p⟩ ⟨gs, plan⟩ (wKeys m) := ⟨⟨cas, sqA_sm e12 hcs, paired_mono pcs fun _ _ h => h.keep e12⟩, ⟨its, sqA_sm e12 hp, paired_mono pp fun _ _ h => sqA_sm e12 h⟩, EO⟩
  have kk : ROk ⟨gs, plan⟩ (wKeys m) (iniS m) := ⟨sb.ok.1, rfl, Nat.le_refl 1, by show 1 + plan.flatten.length ≤ 1000; omega⟩
  refine ⟨_, rfl, x, W.dr, _, rfl, R.r, rfl, _, rfl, a, _, dp, _, _, rfl, ha, k_Program T, na_Program_body T, rfl, (by show 0 ≤ sizeLine; decide), fun p1 hp1 => ?_⟩
  have nb := nB_most wl' hd' hc
  refine ⟨H2, _, _, _, _, l, [], rfl, ⟨W, R.keep (smNew1 hp1 _)⟩, VE, kk, hv', path0 (SqT.of upd_same), hd', kB_reads fun k hk => nk k ((hks.2.2 k).mpr hk), wl', by show 0 + 2 * nB l ≤ 5000; omega, by show 0 + 2 * 4 ≤ 900; omega, fun H5 R5 k5 ts => ?_⟩
  obtain ⟨W5, R5⟩ := R5
  refine ⟨_, rfl, x, _, W5.dr, _, _, rfl, R5.r, k_Runner T, na_Runner_place T, rfl, _, rfl, x, _, W5.dr, _, _, rfl, R5.r, k_Runner T, na_Runner_outcome T, rfl, oc, He.ga K "Outcome", W5.dq, _, rfl, R5.oc, k_Outcome T, na_Outcome_ended T, (by show 5 < 1000; decide), ?_⟩
  refine ⟨_, rfl, x, _, W5.dr, _, _, rfl, upd_tg R5.r R5.oc (by simp [tg]), k_Runner T, na_Runner_outcome T, rfl, ?_⟩
  have s5 := R5.sur k5 EO
  have ts5 := ts_upd (K := K) (.ins (He.ga K "Outcome") W5.dq (putF "ended" (.ref pl) [("printed", .ref W5.pt), ("went", .ref wl), ("looked", .ref ll), ("waits", .int ((goB ⟨gs, plan⟩ [] 0 l (iniS m)).waits : Nat)), ("ended", .non)])) R5.oc trivial
  refine (q ks hks).1 nl no oc _ (e12.trans (smOut R5.sm R5.fo _)) (e12.free R5.fo) ⟨W5.dq, W5.pt, wl, ll, pl, W5.ws, W5.ls, ?_, ts5 _ _ R5.pt, upd_tg R5.wl R5.oc (by simp [tg]), dps_ts ts5 R5.dw (noLs_sts _), upd_tg R5.ll R5.oc (by simp [tg]), dps_ts ts5 R5.dl (noLs_seen _), ⟨⟨W5.dp, W5.p, upd_tg R5.pl R5.oc (by simp [tg]), upd_tg R5.now R5.oc (by simp [tg]), ?_⟩, s5.2⟩, by have := k5.room; omega, by have := sz_B ⟨gs, plan⟩ l [] 0 (iniS m); have z0 : sz (iniS m) = 0 := rfl; omega⟩
  · rw [upd_same]
    rfl
  · obtain ⟨⟨_, _, _, _, o1, o2⟩, _⟩ := s5
    exact ⟨o1, o2⟩
theorem f_run_all (T : Top w K mg) : ∃ fd, FnOk P w K mg base (L2.CX P w) 20 (He.ga K "run") fd ["program", "surroundings", "changes", "schedule"] (spRun K) ∧ PySem.W.keepIn K (.ref (He.ga K "run")) = true ∧ Binds K fd ["program", "surroundings", "changes", "schedule"] [] ∧
    ∃ ds, Vals [V.ref (He.dflAt ("run", none) 0 K), V.ref (He.dflAt ("run", none) 1 K)] ds ∧ Binds K fd ["program", "surroundings", "changes", "schedule"] ds := by
  obtain ⟨fd, F⟩ := f_run T
  refine ⟨fd, F.ok sc_run (fun vs H Q E h => match vs, h with | [_, _, _, _], _ => rfl) (b_run T), F.kp, ?_, ?_⟩
  · obtain ⟨ds, h1, h2⟩ := F.binds1 (ps := ["program", "surroundings", "changes", "schedule"]) 4 2 (by simp) rfl fun T kV doc pm an cdv ct us its h1 h2 => match us, its, h1, h2 with | [_, _, _, _], [_, _], _, _ => ⟨_, rfl, rfl⟩
    cases h1
    exact h2
  · exact F.binds1 (ps := ["program", "surroundings", "changes", "schedule"]) 2 0 (by simp) rfl fun T kV doc pm an cdv ct us its h1 h2 => match us, its, h1, h2 with | [_, _], [_, _], _, _ => ⟨_, rfl, rfl⟩
end
end RM

set_option Elab.async false
set_option linter.all false
set_option maxRecDepth 100000
set_option maxHeartbeats 4000000
set_option pp.maxSteps 600
set_option pp.deepTerms false
namespace RM
open PySem PySem.Spec PyProof.Rows L2
section
variable {P : Program} {w : World} {K : PySem.W.Frag} {mg : Str → Option Value} {base : Heap}
theorem c_run (T : Top w K mg) : Cal P w K mg base (L2.CX P w) 20 "run" (spRun K) :=
  let ⟨fd, F, kp, B, _⟩ := f_run_all T
  ⟨_, fd, _, F, g_run T, kp, B⟩
/-! ### == of surroundings that are equal -/
def spSEq (K : PySem.W.Frag) : Sp := fun vs H Q _ => match vs with
  | [x, y] => ∃ a b m, x = .ref a ∧ y = .ref b ∧ SurAt K H a m ∧ SurAt K H b m ∧ Q (.bl true) H
  | _ => False
theorem sc_Surroundings_eq : FnScope ["self", "other"] ["self", "other"] (defScope s_Surroundings_eq) := ⟨rfl, rfl, rfl, by decide +kernel, rfl, by decide +kernel, by decide +kernel⟩
theorem o_Surroundings_eq (T : Top w K mg) : Own P w K mg base 1 (He.ga K "Surroundings") "__eq__" (spSEq K) := by
  refine own_0 (f_Surroundings_eq T) (spc_Surroundings_eq T) sc_Surroundings_eq (fun _ _ _ _ _ _ us hl => match us, hl with | [_, _], _ => rfl) (fun vs H Q E h => match vs, h with | [_, _], _ => rfl) (fun cdv A outer s H vs Q E hr h => ?_)
  match vs, h with
  | [x, y], h =>
  obtain ⟨a, b, m, rfl, rfl, ⟨⟨dx, p, ha, hp, okm, sm⟩, l1, l4⟩, ⟨⟨dy, p2, hb, hp2, _, _⟩, _, _⟩, q⟩ := h
  refine ⟨_, (pss_cons (ps_if (pt_not (pt_val (pcb (z_isinstance T) call_isi boot_isinstance (pa_cons (pv 1) (pa_cons (pglR (g_Surroundings T)) pa_nil)))))
      (pss_one ps_never)
      pss_nil)
    (pss_one (ps_ret (pe_cmpR (op_eq_dictA (room0 hr)) (pe_fld (pv 0) rfl) (pe_fld (pv 1) rfl) (nomark _))))), ?_⟩
  refine ⟨_, rfl, _, _, _, _, true, rfl, .own _, .base (insB_ty (ins_Surroundings T) (k_Surroundings T) hb), kitC_ok (kit_Surroundings_Surroundings T), ?_⟩
  refine ⟨_, rfl, ifF rfl ?_⟩
  refine ⟨_, rfl, a, _, dx, _, _, rfl, ha, k_Surroundings T, na_Surroundings_now T, rfl, _, rfl, b, _, dy, _, _, rfl, hb, k_Surroundings T, na_Surroundings_now T, rfl, ?_⟩
  refine ⟨p, p2, mK m, mK m, rfl, rfl, hp, hp2, rfl, fun q hq => ?_, q⟩
  obtain ⟨z, hz, rfl⟩ := List.mem_map.mp hq
  exact ⟨valV_mK okm.2 z hz, rfl⟩
/-! ### Change + Change -/
def spAddC (K : PySem.W.Frag) : Sp := fun vs H Q _ => match vs with
  | [x, y] => ∃ a b g g2, x = .ref a ∧ y = .ref b ∧ ChgAt K H a g ∧ ChgAt K H b g2 ∧ (wOver g g2).length ≤ 4 ∧ ∀ p g3 H', Same H H' → H p = none → ChgAt K H' p g3 → g3.Perm (wOver g g2) → Q (.ref p) H'
  | _ => False
theorem sc_Change_add : FnScope ["self", "other"] ["self", "other"] (defScope s_Change_add) := ⟨rfl, rfl, rfl, by decide +kernel, rfl, by decide +kernel, by decide +kernel⟩
theorem o_Change_add (T : Top w K mg) : OwnC P w K mg base CX0 6 (He.ga K "Change") "__add__" (spAddC K) := by
  refine own_C0 (f_Change_add T) (spc_Change_add T) sc_Change_add (fun _ _ _ _ _ _ us hl => match us, hl with | [_, _], _ => rfl) (fun vs H Q E h => match vs, h with | [_, _], _ => rfl) (fun cdv A outer s H vs Q E hr h => ?_)
  match vs, h with
  | [x, y], h =>
  obtain ⟨a, b, g, g2, rfl, rfl, ca, cb, hl, q⟩ := h
  obtain ⟨⟨dx, p, ha, hp, okg, sg⟩, lg⟩ := id ca
  obtain ⟨⟨dy, p2, hb, hp2, okg2, sg2⟩, lg2⟩ := id cb
  refine ⟨_, (pss_cons (ps_if (pt_not (pt_val (pcb (z_isinstance T) call_isi boot_isinstance (pa_cons (pv 1) (pa_cons (pglR (g_Change T)) pa_nil)))))
      (pss_one ps_never)
      pss_nil)
    (pss_one (ps_ret (pmk (c_Change_init T) hr (pa_cons (pe_star2 (pe_fld (pv 0) rfl) (pe_fld (pv 1) rfl)) pa_nil))))), ?_⟩
  refine ⟨_, rfl, _, _, _, _, true, rfl, .own _, .base (insB_ty (ins_Change T) (k_Change T) hb), kitC_ok (kit_Change_Change T), ?_⟩
  refine ⟨_, rfl, ifF rfl ?_⟩
  refine fun r nr => ?_
  have ra : a ≠ r := ne_of_none ha nr
  have rb : b ≠ r := ne_of_none hb nr
  have rp : p ≠ r := ne_of_none hp nr
  have rp2 : p2 ≠ r := ne_of_none hp2 nr
  have e1 : mergeK [] (mK g) = mK g := merge_nil okg.2
  refine ⟨_, rfl, a, _, dx, _, _, rfl, by rw [upd_ne ra]; exact ha, k_Change T, na_Change_given T, rfl, p, mK g, rfl, rp, upd_same, .of (by rw [upd_ne rp]; exact hp), ?_⟩
  refine ⟨_, rfl, b, _, dy, _, _, rfl, by rw [upd_ne rb, upd_ne rb]; exact hb, k_Change T, na_Change_given T, rfl, p2, mK g2, mK g, rfl, rp2, by rw [upd_same, e1], .of (by rw [upd_ne rp2, upd_ne rp2]; exact hp2), ?_, ?_⟩
  · show (g.map _).length + (g2.map _).length ≤ _
    rw [List.length_map, List.length_map]
    exact Nat.le_of_lt (small1000 (by omega))
  intro x dx2 hx hdx hne
  have mI := mk_in (C := He.ga K "Change") hx hdx hne
  refine ⟨x, dx2, r, wOver g g2, rfl, rfl, upd_same, mI _ _ (by rw [upd_same, mergeK_w]), okM_over okg okg2.1, Nat.zero_le _, hl, fun H' m2 off mp pm => ⟨rfl, ?_⟩⟩
  have s1 : Same H (upd (upd (upd H r (.dK [])) r (.dK (mergeK [] (mK g)))) r (.dK (mergeK (mK g) (mK g2)))) := fun c u hc => by
    have := ne_of_none hc nr
    rw [upd_ne this, upd_ne this, upd_ne this]
    exact hc
  exact q x m2 H' (s1.trans (mk_sm hx hdx off)) (s1.free hx) ⟨mp, by rw [pm.length_eq]; exact hl⟩ pm
end
end RM

set_option Elab.async false
set_option linter.all false
set_option maxRecDepth 100000
set_option maxHeartbeats 2000000
/-! own rules of texts: spaces, str of either, replace behind a number, zip(list, text) -/
namespace RM
open PySem PySem.Spec PyProof.Rows L2
/-! ### n spaces -/
def spc (n : Nat) : Str := ⟨(List.replicate n 32).toArray⟩
theorem spc_list (n : Nat) : (spc n).cps.toList = List.replicate n 32 := rfl
theorem spc_len (n : Nat) : (spc n).length = n := by
  show (List.replicate n 32).toArray.size = n
  simp
theorem blank_list : (" " : Str).cps.toList = [32] := by decide +kernel
theorem fold_blank : ∀ (n : Nat) (acc : Array Nat), ((List.replicate n (" " : Str).cps).foldl (· ++ ·) acc).toList = acc.toList ++ List.replicate n 32
  | 0, acc => by simp
  | n + 1, acc => by
    rw [List.replicate_succ, List.foldl_cons, fold_blank n, Array.toList_append, blank_list, List.replicate_succ, List.append_assoc]
    rfl
theorem str_ext {a b : Str} (h : a.cps.toList = b.cps.toList) : a = b := by
  obtain ⟨⟨x⟩⟩ := a
  obtain ⟨⟨y⟩⟩ := b
  have e : x = y := h
  rw [e]
/-- ' ' * n -/
def rSpc : R2 := fun x y H Q => ∃ n : Nat, x = .str " " ∧ y = .int n ∧ n ≤ 1000 ∧ Q (.str (spc n)) H
theorem op_spc {X : Cx} : OpR X (binaryOp .Mult) rSpc := by
  rintro pins s σ H x y v u Q I rx ry ⟨n, rfl, rfl, hn, q⟩
  obtain ⟨t, rfl⟩ := rx
  obtain ⟨t', rfl⟩ := ry
  have one : (" " : Str).length = 1 := by decide +kernel
  have low : (decide ((n : Int) < -(2 ^ 63 : Int)) || decide ((n : Int) ≥ 2 ^ 63)) = false := by
    rw [decide_eq_false (by omega), decide_eq_false (by omega)]
    rfl
  refine PySem.P.mul_str low (fun _ _ => ?_) (fun _ _ => ?_) ?_
  · rw [one]
    intro h
    have p : (0 : Int) < n := by omega
    have := (Int.ediv_lt_iff_lt_mul p).mp (show (2 ^ 63 - 1) / (n : Int) < 1 from by omega)
    omega
  · rw [one, Nat.one_mul, Int.toNat_natCast]
    exact decide_eq_false (by have := small1000 hn; omega)
  · by_cases h0 : (n : Int) < 1
    · rw [if_pos h0]
      have e : n = 0 := by omega
      subst e
      exact ⟨by decide, .str (spc 0), H, I.tok _, ⟨_, rfl⟩, q⟩
    · rw [if_neg h0]
      by_cases h1 : ((n : Int) == 1 || (" " : Str).length == 0) = true
      · rw [if_pos h1]
        have e : n = 1 := by
          rw [one] at h1
          simp at h1
          omega
        subst e
        have q1 : spc 1 = " " := str_ext (by rw [blank_list]; rfl)
        rw [q1] at q
        exact ⟨.str " ", H, I, ⟨_, rfl⟩, q⟩
      · rw [if_neg h1]
        have e : (⟨(List.replicate (n : Int).toNat (" " : Str).cps).foldl (· ++ ·) #[]⟩ : Str) = spc n := str_ext (by
          show ((List.replicate (n : Int).toNat (" " : Str).cps).foldl (· ++ ·) #[]).toList = _
          rw [fold_blank, Int.toNat_natCast]
          rfl)
        rw [e]
        exact ⟨by rw [spc_len]; exact Nat.le_of_lt (small1000 hn), .str (spc n), H, I.tok _, ⟨_, rfl⟩, q⟩
/-! ### str(x), a text or a number -/
def rStr : List V → Hp → VK → Prop := fun xs H Q => (∃ a, xs = [.str a] ∧ Q (.str a) H) ∨ ∃ i : Int, xs = [.int i] ∧ i.natAbs.log2 < 1920 ∧ Q (.str (toString i)) H
theorem cr_str {X : Cx} : CallR X (.type "str") rStr := by
  intro pins s σ H xs us Q I r h
  rcases h with h | h
  · exact SkE.call_str_str pins s σ H xs us Q I r h
  · exact call_str_int pins s σ H xs us Q I r h
/-! ### text.replace(written, written), a number read ahead of it -/
section
variable {X : Cx} {a b o : Expr} {ta tb to : TE} {pos : Pos}
/-- behind e a token has been given out -/
def PEK (X : Cx) (e : Expr) (te : TE) : Prop := ∀ pins s σ H Q, Inv X pins σ H s → te σ H Q → wpAny (model X.prog X.w) X.A (eval e X.env) (fun u s' => 1 ≤ s'.toks ∧ EP X pins σ Q u s') X.xe s
theorem pek_int {i : Int} {j : Nat} : PEK X (.Constant (.int i) j pos) (tC (.int i)) := fun _ s _ H _ I h => wpAny_Constant_int ⟨Nat.le_add_left 1 s.toks, .int i, H, I.tok _, ⟨_, rfl⟩, h⟩
theorem pek_ix {r : R2} (hr : IxR X r) (ha : PE X a ta) (hb : PEK X b tb) (hs : PlainIx b) : PEK X (.Subscript a b pos) (tOp r ta tb) := by
  intro pins s σ H Q I h
  refine Subscript_ (thn (ha.run pins s σ H _ I h) fun v s1 z => ?_)
  obtain ⟨x, H1, I1, r1, q1⟩ := z
  refine thn (hb pins s1 σ H1 _ I1 q1) fun u s2 z => ?_
  obtain ⟨k, y, H2, I2, r2, q2⟩ := z
  exact wpAny_mono (PySem.wpAny_toks_of k (hr a b pins s2 σ H2 x y v u Q I2 r1 r2 q2 (hs _ _))) (fun _ _ z => z) fun _ _ z => z.2
def tRepl (to : TE) (y z : Str) : TE := fun σ H Q => to σ H fun v H1 => ∃ x, v = .str x ∧ x.length + (x.length + 1) * z.length ≤ 16777216 ∧ Q (.str (Txt.replace x y z)) H1
theorem pe_repl {y z : Str} {j k : Nat} {c0 c1 apos : Pos} (ho : PEK X o to) (ne : (y == z) = false := by decide)
    (two : starEach [.Constant (.str y) j c0, .Constant (.str z) k c1] X.env = [(false, eval (.Constant (.str y) j c0) X.env), (false, eval (.Constant (.str z) k c1) X.env)] := by rfl)
    (plain : attributeBase o "replace" X.env (eval o X.env) = eval o X.env := by rfl) (line : (apos.endLine == pos.line) = true := by rfl) :
    PE X (.Call (.Attribute o "replace" apos) [.Constant (.str y) j c0, .Constant (.str z) k c1] [] pos) (tRepl to y z) := by
  constructor
  intro pins s σ H Q I h
  refine PySem.Call_method2 plain two line (thn (ho pins s σ H _ I h) fun v s1 got => ?_)
  obtain ⟨k1, _, H1, I1, r1, x, rfl, few, q⟩ := got
  obtain ⟨tx, rfl⟩ := r1
  refine ⟨"str", "str.replace", PySem.F.plainAttrs_str, PySem.F.slot_str_replace, PySem.F.type_str_replace, typeIs_str _ _ _, nofun, ?_⟩
  refine Calls.callWith_builtin rfl (Calls.evalArgs_plain (Calls.spliced_cons (Calls.Constant_str (Calls.spliced_cons (Calls.Constant_str (Calls.spliced_nil ?_))))))
  refine PySem.SC.replace ?_ ?_ ?_ ne few fun t' n => ⟨.str (Txt.replace x y z), H1, I1.tok n, ⟨t', rfl⟩, q⟩
  · exact fun z => by rw [z] at k1; cases k1
  · exact Nat.succ_ne_zero _
  · exact Nat.ne_of_lt (Nat.lt_succ_self _)
end
end RM

set_option Elab.async false
set_option linter.all false
set_option maxRecDepth 100000
set_option maxHeartbeats 2000000
/-! texts of programs: lines, and what is read of a line -/
namespace RM
open PySem PySem.Spec PyProof.Rows L2
abbrev cl (z : Str) : List Nat := z.cps.toList
theorem cl_app (a b : Str) : cl (a ++ b) = cl a ++ cl b := TL.tl_append a b
theorem cl_len (z : Str) : (cl z).length = z.length := by show z.cps.toList.length = z.cps.size; simp
/-! ### numbers as texts -/
def numT (n : Int) : Str := toString n
def isDig (c : Nat) : Bool := decide (c ∈ cl "0123456789")
/-- the figures of a word: without a sign -/
def figs (z : Str) : List Nat := if (cl z).take 1 = [45] then (cl z).drop 1 else cl z
def numOf (z : Str) : Option Int :=
  if (figs z).length = 0 ∨ 2 < (figs z).length ∨ ((figs z)[0]? = some 48 ∧ cl z ≠ [48]) ∨ (figs z).all isDig = false then none else PySem.intText? z
def valsL : List Int := (List.range 199).map fun (k : Nat) => (k : Int) - 99
theorem vals_mem {n : Int} (h : isValue n = true) : n ∈ valsL := by
  unfold isValue at h
  rw [Bool.and_eq_true, decide_eq_true_eq, decide_eq_true_eq] at h
  exact List.mem_map.mpr ⟨(n + 99).toNat, List.mem_range.mpr (by omega), by show (((n + 99).toNat : Nat) : Int) - 99 = n; omega⟩
def numChk (n : Int) : Bool := decide (numOf (numT n) = some n) && (decide ((cl (numT n)).length ≤ 3) && (decide (1 ≤ (cl (numT n)).length) && (cl (numT n)).all fun c => decide (c ≠ 32) && (decide (c ≠ 10) && decide (c < 128))))
theorem num_all : valsL.all numChk = true := by decide +kernel
theorem num_chk {n : Int} (h : isValue n = true) : numChk n = true := List.all_eq_true.mp num_all n (vals_mem h)
theorem num_back {n : Int} (h : isValue n = true) : numOf (numT n) = some n := by
  have := num_chk h
  unfold numChk at this
  rw [Bool.and_eq_true] at this
  exact of_decide_eq_true this.1
/-- one or two figures, with or without a sign: a value -/
def figChk (l : List Nat) : Bool := match PySem.intText? ⟨l.toArray⟩, PySem.intText? ⟨(45 :: l).toArray⟩ with
  | some a, some b => isValue a && isValue b
  | _, _ => false
def figL : List (List Nat) := ((List.range 10).map fun a => [48 + a]) ++ (List.range 10).flatMap fun a => (List.range 10).map fun b => [48 + a, 48 + b]
theorem fig_all : figL.all figChk = true := by decide +kernel
theorem dig_lt {c : Nat} (h : isDig c = true) : ∃ a, a < 10 ∧ c = 48 + a := by
  have e : ∀ c ∈ cl "0123456789", c - 48 < 10 ∧ c = 48 + (c - 48) := by decide +kernel
  exact ⟨c - 48, e c (of_decide_eq_true h)⟩
theorem fig_mem {l : List Nat} (h0 : l.length ≠ 0) (h2 : ¬ 2 < l.length) (h : l.all isDig = true) : l ∈ figL := by
  match l, h0, h2, h with
  | [c], _, _, h =>
    simp only [List.all_cons, List.all_nil, Bool.and_true] at h
    obtain ⟨a, ha, rfl⟩ := dig_lt h
    exact List.mem_append.mpr (.inl (List.mem_map.mpr ⟨a, List.mem_range.mpr ha, rfl⟩))
  | [c, d], _, _, h =>
    simp only [List.all_cons, List.all_nil, Bool.and_true, Bool.and_eq_true] at h
    obtain ⟨a, ha, rfl⟩ := dig_lt h.1
    obtain ⟨b, hb, rfl⟩ := dig_lt h.2
    exact List.mem_append.mpr (.inr (List.mem_flatMap.mpr ⟨a, List.mem_range.mpr ha, List.mem_map.mpr ⟨b, List.mem_range.mpr hb, rfl⟩⟩))
  | [], h0, _, _ => exact absurd rfl h0
  | _ :: _ :: _ :: _, _, h2, _ => exact absurd (by simp) h2
theorem fig_int {z : Str} (h0 : (figs z).length ≠ 0) (h2 : ¬ 2 < (figs z).length) (h : (figs z).all isDig = true) : ∃ n, PySem.intText? z = some n ∧ isValue n = true := by
  have c := List.all_eq_true.mp fig_all _ (fig_mem h0 h2 h)
  unfold figChk at c
  have e : z = ⟨(figs z).toArray⟩ ∨ z = ⟨(45 :: figs z).toArray⟩ := by
    unfold figs
    split
    · rename_i e
      refine .inr (str_ext ?_)
      show cl z = 45 :: (cl z).drop 1
      have := List.take_append_drop 1 (cl z)
      rw [e] at this
      exact this.symm
    · exact .inl (str_ext rfl)
  split at c
  · rename_i a b ea eb
    rw [Bool.and_eq_true] at c
    rcases e with e | e
    · rw [e]; exact ⟨a, ea, c.1⟩
    · rw [e]; exact ⟨b, eb, c.2⟩
  · cases c
theorem numOf_val {z : Str} {n : Int} (h : numOf z = some n) : isValue n = true := by
  unfold numOf at h
  split at h
  · cases h
  · rename_i c
    simp only [not_or, Bool.not_eq_false] at c
    obtain ⟨m, e, v⟩ := fig_int c.1 c.2.1 c.2.2.2
    rw [e] at h
    cases h
    exact v
/-! ### words of a line -/
def tokD : PyData → Str
  | .str z => z
  | .int n => numT n
  | _ => ""
def Stm.toks (s : Stm) : List Str := s.word :: s.flats.map tokD
/-- no blank, no line feed, not empty, not long -/
def tokOk (z : Str) : Bool := decide (1 ≤ (cl z).length) && (decide ((cl z).length ≤ 6) && (cl z).all fun c => decide (c ≠ 32) && (decide (c ≠ 10) && decide (c < 128)))
theorem tok_word {z : Str} (h : isWord z = true) : tokOk z = true := by
  unfold isWord at h
  rw [Bool.and_eq_true, Bool.and_eq_true] at h
  unfold tokOk
  rw [cl_len, h.1.1, h.1.2]
  show (cl z).all _ = true
  refine List.all_eq_true.mpr fun c hc => ?_
  have a : ∀ c ∈ cl "abcdefghijklmnopqrstuvwxyz", (decide (c ≠ 32) && (decide (c ≠ 10) && decide (c < 128))) = true := by decide +kernel
  exact a c (of_decide_eq_true (List.all_eq_true.mp h.2 c hc))
theorem tok_num {n : Int} (h : isValue n = true) : tokOk (numT n) = true := by
  have c := num_chk h
  unfold numChk at c
  simp only [Bool.and_eq_true, decide_eq_true_eq] at c
  unfold tokOk
  simp only [Bool.and_eq_true, decide_eq_true_eq]
  obtain ⟨_, c2, c3, c4⟩ := c
  exact ⟨c3, by omega, c4⟩
theorem words_ok : ∀ z ∈ (["read", "set", "copy", "print", "say", "wait", "if", "same", "repeat", "stop"] : List Str), tokOk z = true ∧ z ≠ "else" := by decide +kernel
theorem word_mem (s : Stm) : s.word ∈ (["read", "set", "copy", "print", "say", "wait", "if", "same", "repeat", "stop"] : List Str) := by cases s <;> simp [Stm.word]
theorem toks_ok {s : Stm} (h : wl s = true) : ∀ z ∈ s.toks, tokOk z = true := by
  intro z hz
  rcases List.mem_cons.mp hz with e | hz
  · rw [e]; exact (words_ok _ (word_mem s)).1
  · obtain ⟨d, hd, e⟩ := List.mem_map.mp hz
    subst e
    have t : ∀ n : Int, 0 ≤ n → n ≤ 3 → isValue n = true := fun n a b => isValue_rep (by rw [decide_eq_true a, decide_eq_true b]; rfl)
    cases s <;> simp only [Stm.flats, List.mem_cons, List.not_mem_nil, or_false] at hd <;> simp only [wl, Bool.and_eq_true, decide_eq_true_eq] at h
    all_goals first
      | exact hd.elim
      | (rcases hd with rfl | rfl
         · exact tok_word h.1
         · first | exact tok_word h.2 | exact tok_num h.2)
      | (subst hd; first | exact tok_word h | exact tok_num h | exact tok_num (t _ h.1 h.2))
theorem toks_len (s : Stm) : s.toks.length ≤ 3 := by cases s <;> simp [Stm.toks, Stm.flats]
/-! ### lines -/
def line (i : Nat) (toks : List Str) : Str := spc i ++ Txt.join " " toks
def elseL (i : Nat) : Str := spc i ++ "else"
mutual
def lnS (i : Nat) : Stm → List Str
  | .ite v n a b => line i (Stm.ite v n a b).toks :: (lnB (i + 2) a ++ elseL i :: lnB (i + 2) b)
  | .same v u a b => line i (Stm.same v u a b).toks :: (lnB (i + 2) a ++ elseL i :: lnB (i + 2) b)
  | .rep n a => line i (Stm.rep n a).toks :: lnB (i + 2) a
  | .read v k => [line i (Stm.read v k).toks]
  | .set v n => [line i (Stm.set v n).toks]
  | .copy v u => [line i (Stm.copy v u).toks]
  | .print v => [line i (Stm.print v).toks]
  | .say n => [line i (Stm.say n).toks]
  | .wait => [line i Stm.wait.toks]
  | .stop => [line i Stm.stop.toks]
def lnB (i : Nat) : List Stm → List Str
  | [] => []
  | s :: r => lnS i s ++ lnB i r
end
/-- the lines behind the statement's own -/
def lnR (i : Nat) : List (List Stm) → List Str
  | [] => []
  | [a] => lnB (i + 2) a
  | a :: b :: _ => lnB (i + 2) a ++ elseL i :: lnB (i + 2) b
theorem lnS_eq (i : Nat) (s : Stm) : lnS i s = line i s.toks :: lnR i s.bodies := by cases s <;> simp [lnS, lnR, Stm.bodies]
theorem lnB_app (i : Nat) : ∀ (l m : List Stm), lnB i (l ++ m) = lnB i l ++ lnB i m
  | [], m => by simp [lnB]
  | s :: r, m => by rw [List.cons_append, lnB, lnB, lnB_app i r m, List.append_assoc]
theorem lnB_take {i : Nat} {l : List Stm} {j : Nat} {s : Stm} (h : l[j]? = some s) : lnB i (l.take (j + 1)) = lnB i (l.take j) ++ lnS i s := by
  rw [take_more h, lnB_app]
  simp [lnB]
theorem join_one (a : Str) : Txt.join " " [a] = a := by rw [TL.join_eq]; rfl
theorem join_cl : ∀ (a : Str) (r : List Str), ∃ m, cl (Txt.join " " (a :: r)) = cl a ++ m
  | a, [] => ⟨[], by rw [join_one, List.append_nil]⟩
  | a, b :: r => by
    refine ⟨[32] ++ TL.joinL [32] ((b :: r).map TL.tl), ?_⟩
    show TL.tl (Txt.join " " (a :: b :: r)) = _
    rw [TL.join_eq, TL.tl_join]
    rw [show TL.tl (" " : Str) = [32] from blank_list]
    rfl
/-- a line's text behind its blanks begins with a letter -/
theorem join_head {a : Str} {r : List Str} (h : tokOk a = true) : ∃ c m, cl (Txt.join " " (a :: r)) = c :: m ∧ c ≠ 32 := by
  obtain ⟨m, e⟩ := join_cl a r
  unfold tokOk at h
  simp only [Bool.and_eq_true, decide_eq_true_eq, List.all_eq_true] at h
  cases hc : cl a with
  | nil => rw [hc] at h; exact absurd h.1 (by simp)
  | cons c r' =>
    rw [hc] at e h
    exact ⟨c, r' ++ m, e, (h.2.2 c List.mem_cons_self).1⟩
theorem split_toks {toks : List Str} (hne : toks ≠ []) (h : ∀ z ∈ toks, tokOk z = true) : Txt.split (Txt.join " " toks) " " = toks := by
  refine TL.split_join (s := 32) (S := []) blank_list (by decide +kernel) hne fun p hp z => ?_
  have t := h p hp
  unfold tokOk at t
  simp only [Bool.and_eq_true, decide_eq_true_eq, List.all_eq_true] at t
  exact (t.2.2 32 z).1 rfl
theorem cl_spc (n : Nat) : cl (spc n) = List.replicate n 32 := rfl
theorem cut_pre (z : Str) (j : Nat) : cl (cutS z none (some (j : Int))) = (cl z).take j := by
  show ((cl z).drop _).take _ = _
  rw [HT.sIx_none, HT.sIx_nat, List.drop_zero, Nat.sub_zero, ← cl_len, ← List.take_eq_take_min]
theorem cut_suf (z : Str) (j : Nat) : cl (cutS z (some (j : Int)) none) = (cl z).drop j := by
  show ((cl z).drop _).take _ = _
  rw [HT.sIx_none, HT.sIx_nat, ← cl_len]
  by_cases h : j ≤ (cl z).length
  · rw [Nat.min_eq_left h, List.take_of_length_le (by rw [List.length_drop]; exact Nat.le_refl _)]
  · rw [Nat.min_eq_right (by omega), Nat.sub_self, List.take_zero, List.drop_of_length_le (by omega)]
theorem cut_front (i : Nat) (t : Str) : cutS (spc i ++ t) none (some (i : Int)) = spc i := by
  refine str_ext ((cut_pre _ _).trans ?_)
  rw [cl_app, List.take_append_of_le_length (by rw [cl_spc]; simp), cl_spc, List.take_replicate, Nat.min_self]
  rfl
theorem cut_back (i : Nat) (t : Str) : cutS (spc i ++ t) (some (i : Int)) none = t := by
  refine str_ext ((cut_suf _ _).trans ?_)
  rw [cl_app, List.drop_append_of_le_length (by rw [cl_spc]; simp), cl_spc, List.drop_replicate, Nat.sub_self]
  rfl
/-- a line of lesser indent does not begin with so many blanks -/
theorem cut_less {i j : Nat} {t : Str} {c : Nat} {m : List Nat} (h : cl t = c :: m) (hc : c ≠ 32) (hj : i < j) : cutS (spc i ++ t) none (some (j : Int)) ≠ spc j := by
  intro e
  have e1 := congrArg cl e
  rw [cut_pre, cl_app, cl_spc, cl_spc, h] at e1
  have e3 := congrArg (fun l => l[i]?) e1
  simp only [List.getElem?_take, if_pos hj, List.getElem?_replicate] at e3
  rw [List.getElem?_append_right (by simp)] at e3
  simp at e3
  exact hc e3
theorem spc_inj {i : Nat} {a b : Str} (h : spc i ++ a = spc i ++ b) : a = b := by
  have e := congrArg cl h
  rw [cl_app, cl_app] at e
  exact str_ext (List.append_cancel_left e)
theorem line_not_else {i : Nat} {s : Stm} (h : wl s = true) : line i s.toks ≠ elseL i := by
  intro e
  have e1 := spc_inj e
  have e2 := split_toks (toks := s.toks) (by simp [Stm.toks]) (toks_ok h)
  have e3 := split_toks (toks := ["else"]) (by simp) (by decide +kernel)
  rw [join_one] at e3
  rw [e1, e3] at e2
  have e4 : ("else" : Str) = s.word := by
    unfold Stm.toks at e2
    injection e2
  exact (words_ok _ (word_mem s)).2 e4.symm
theorem else_cl : ∃ c m, cl "else" = c :: m ∧ c ≠ 32 := ⟨101, [108, 115, 101], by decide +kernel, by decide⟩
/-! ### where a body ends -/
def Stops (i : Nat) (rest : List Str) : Prop := rest = [] ∨ ∃ z r, rest = z :: r ∧ (cutS z none (some (i : Int)) ≠ spc i ∨ z = elseL i)
theorem stops_else (i : Nat) (r : List Str) : Stops (i + 2) (elseL i :: r) := by
  obtain ⟨c, m, h, hc⟩ := else_cl
  exact .inr ⟨_, _, rfl, .inl (cut_less h hc (by omega))⟩
theorem head_line {s : Stm} (h : wl s = true) : ∃ c m, cl (Txt.join " " s.toks) = c :: m ∧ c ≠ 32 := join_head (toks_ok h _ (by simp [Stm.toks]))
theorem stops_body {i : Nat} {l : List Stm} {rest : List Str} (hw : wB l = true) (h : Stops i rest) : Stops (i + 2) (lnB i l ++ rest) := by
  cases l with
  | nil =>
    rw [lnB, List.nil_append]
    rcases h with h | ⟨z, r, rfl, h | h⟩
    · exact .inl h
    · refine .inr ⟨z, r, rfl, .inl fun e => h ?_⟩
      -- so many blanks are fewer blanks too
      have e1 : (cl z).take (i + 2) = List.replicate (i + 2) 32 := by
        have e2 := congrArg cl e
        rwa [cut_pre, cl_spc] at e2
      refine str_ext ((cut_pre _ _).trans ?_)
      have e2 := congrArg (List.take i) e1
      rw [List.take_take, Nat.min_eq_left (by omega), List.take_replicate, Nat.min_eq_left (by omega)] at e2
      exact e2
    · rw [h]
      exact stops_else i r
  | cons s r =>
    rw [lnB, lnS_eq, List.cons_append, List.cons_append]
    have hs : wl s = true := wl_of (wB_all hw s List.mem_cons_self)
    obtain ⟨c, m, h, hc⟩ := head_line hs
    exact .inr ⟨_, _, rfl, .inl (cut_less h hc (by omega))⟩
/-! ### sizes -/
theorem joinL_len (S : List Nat) : ∀ ps : List (List Nat), (TL.joinL S ps).length ≤ (ps.map List.length).sum + ps.length * S.length
  | [] => by simp [TL.joinL]
  | [p] => by simp [TL.joinL]
  | p :: q :: r => by
    have ih := joinL_len S (q :: r)
    show (p ++ (S ++ TL.joinL S (q :: r))).length ≤ _
    rw [List.length_append, List.length_append, List.map_cons, List.sum_cons, List.length_cons, Nat.add_mul]
    omega
theorem toks_sum {s : Stm} (h : wl s = true) : (s.toks.map (·.length)).sum ≤ 18 := by
  have e : ∀ z ∈ s.toks, z.length ≤ 6 := fun z hz => by
    have t := toks_ok h z hz
    unfold tokOk at t
    simp only [Bool.and_eq_true, decide_eq_true_eq, cl_len] at t
    exact t.2.1
  have g : ∀ l : List Str, (∀ z ∈ l, z.length ≤ 6) → (l.map (·.length)).sum ≤ 6 * l.length := by
    intro l
    induction l with
    | nil => intro _; simp
    | cons a r ih =>
      intro hl
      have h1 := hl a List.mem_cons_self
      have h2 := ih fun z hz => hl z (List.mem_cons_of_mem _ hz)
      rw [List.map_cons, List.sum_cons, List.length_cons]
      omega
  have := g _ e
  have := toks_len s
  omega
theorem join_len (parts : List Str) : (Txt.join " " parts).length ≤ (parts.map (·.length)).sum + parts.length := by
  rw [← cl_len, show cl (Txt.join " " parts) = TL.joinL (TL.tl " ") (parts.map TL.tl) from by
    show TL.tl (Txt.join " " parts) = _
    rw [TL.join_eq, TL.tl_join]]
  refine Nat.le_trans (joinL_len _ _) ?_
  rw [show TL.tl (" " : Str) = [32] from blank_list, List.map_map, List.length_map]
  have e : parts.map (List.length ∘ TL.tl) = parts.map (·.length) := List.map_congr_left fun z _ => cl_len z
  rw [e]
  simp
theorem line_len {i : Nat} {s : Stm} (h : wl s = true) : (line i s.toks).length ≤ i + 21 := by
  have h1 := toks_sum h
  have h2 := toks_len s
  have h3 := join_len s.toks
  unfold line
  rw [Str.length_append, spc_len]
  omega
theorem else_len (i : Nat) : (elseL i).length = i + 4 := by
  unfold elseL
  rw [Str.length_append, spc_len]
  have : ("else" : Str).length = 4 := by decide +kernel
  omega
mutual
theorem lnS_cnt (i : Nat) : ∀ s : Stm, (lnS i s).length ≤ 2 * cS s
  | .read .. => by simp [lnS, cS]
  | .set .. => by simp [lnS, cS]
  | .copy .. => by simp [lnS, cS]
  | .print .. => by simp [lnS, cS]
  | .say .. => by simp [lnS, cS]
  | .wait => by simp [lnS, cS]
  | .stop => by simp [lnS, cS]
  | .ite v n a b => by
    have h1 := lnB_cnt (i + 2) a
    have h2 := lnB_cnt (i + 2) b
    simp only [lnS, cS, List.length_cons, List.length_append]
    omega
  | .same v u a b => by
    have h1 := lnB_cnt (i + 2) a
    have h2 := lnB_cnt (i + 2) b
    simp only [lnS, cS, List.length_cons, List.length_append]
    omega
  | .rep n a => by
    have h1 := lnB_cnt (i + 2) a
    simp only [lnS, cS, List.length_cons]
    omega
theorem lnB_cnt (i : Nat) : ∀ l : List Stm, (lnB i l).length ≤ 2 * cB l
  | [] => by simp [lnB]
  | s :: r => by
    have h1 := lnS_cnt i s
    have h2 := lnB_cnt i r
    simp only [lnB, cB, List.length_append]
    omega
end
/-! ### a statement's form without its bodies' signs; its items in two parts -/
def fform (s : Stm) : Str := Txt.replace s.form "b" ""
theorem fform_len (s : Stm) : (fform s).length = s.flats.length := by cases s <;> simp only [fform, Stm.form, Stm.flats, List.length_cons, List.length_nil] <;> decide +kernel
theorem form_small (s : Stm) : s.form.length + (s.form.length + 1) * ("" : Str).length ≤ 16777216 := by cases s <;> simp only [Stm.form] <;> decide +kernel
theorem flats_len (s : Stm) : s.flats.length ≤ 2 := by cases s <;> simp [Stm.flats]
theorem DpAll.app_inv {K : PySem.W.Frag} {H : Hp} : ∀ {ds es : List PyData} {vs : List V}, DpAll K H vs (ds ++ es) → ∃ us ws, vs = us ++ ws ∧ DpAll K H us ds ∧ DpAll K H ws es
  | [], es, vs, h => ⟨[], vs, rfl, .nil, h⟩
  | d :: ds, es, vs, h => by
    obtain ⟨v, r, rfl, h1, h2⟩ := DpAll.cons_inv h
    obtain ⟨us, ws, rfl, h3, h4⟩ := DpAll.app_inv h2
    exact ⟨v :: us, ws, rfl, .cons h1 h3, h4⟩
theorem cut_mid {v : V} {us ws : List V} {k : Nat} (h : us.length = k) : cutV (v :: (us ++ ws)) (some 1) (some ((k : Int) + 1)) = us := by
  subst h
  unfold cutV
  rw [show ((us.length : Int) + 1) = ((us.length + 1 : Nat) : Int) from rfl, HT.sIx_nat, show (1 : Int) = ((1 : Nat) : Int) from rfl, HT.sIx_nat, List.length_cons, List.length_append, Nat.min_eq_left (by omega), Nat.min_eq_left (by omega)]
  show (us ++ ws).take _ = us
  rw [Nat.add_sub_cancel, List.take_append_of_le_length (Nat.le_refl _), List.take_length]
theorem cut_end {v : V} {us ws : List V} {k : Nat} (h : us.length = k) : cutV (v :: (us ++ ws)) (some ((k : Int) + 1)) none = ws := by
  subst h
  unfold cutV
  rw [show ((us.length : Int) + 1) = ((us.length + 1 : Nat) : Int) from rfl, HT.sIx_nat, HT.sIx_none, List.length_cons, List.length_append, Nat.min_eq_left (by omega)]
  show ((us ++ ws).drop us.length).take _ = ws
  rw [List.drop_append_of_le_length (Nat.le_refl _), List.drop_length, List.nil_append, List.take_of_length_le (by omega)]
theorem not_all {v : V} {xs : List V} {k : Nat} {o : Option Int} : ¬ (HT.sIx (v :: xs).length 0 (some ((k : Int) + 1)) = 0 ∧ HT.sIx (v :: xs).length (v :: xs).length o = (v :: xs).length) := by
  rw [show ((k : Int) + 1) = ((k + 1 : Nat) : Int) from rfl, HT.sIx_nat, List.length_cons]
  intro h
  have := h.1
  omega
theorem bodies_cases (s : Stm) : s.bodies = [] ∨ (∃ a, s.bodies = [a]) ∨ ∃ a b, s.bodies = [a, b] := by cases s <;> simp [Stm.bodies]
theorem log_small {i : Int} (h : isValue i = true) : i.natAbs.log2 < 1920 := by
  unfold isValue at h
  rw [Bool.and_eq_true, decide_eq_true_eq, decide_eq_true_eq] at h
  by_cases z : i.natAbs = 0
  · rw [z]; decide
  · exact (Nat.log2_lt z).mpr (Nat.lt_of_le_of_lt (show i.natAbs ≤ 99 by omega) (by decide))
/-- what stands in a statement itself: a word, or a value -/
theorem flat_ok {s : Stm} (h : wl s = true) {d : PyData} (hd : d ∈ s.flats) : (∃ z, d = .str z ∧ isWord z = true) ∨ ∃ n, d = .int n ∧ isValue n = true := by
  have t : ∀ n : Int, 0 ≤ n → n ≤ 3 → isValue n = true := fun n a b => isValue_rep (by rw [decide_eq_true a, decide_eq_true b]; rfl)
  cases s <;> simp only [Stm.flats, List.mem_cons, List.not_mem_nil, or_false] at hd <;> simp only [wl, Bool.and_eq_true, decide_eq_true_eq] at h
  all_goals first
    | exact hd.elim
    | (rcases hd with rfl | rfl
       · exact .inl ⟨_, rfl, h.1⟩
       · first | exact .inl ⟨_, rfl, h.2⟩ | exact .inr ⟨_, rfl, h.2⟩)
    | (subst hd; first | exact .inl ⟨_, rfl, h⟩ | exact .inr ⟨_, rfl, h⟩ | exact .inr ⟨_, rfl, t _ h.1 h.2⟩)
theorem map_at {α β : Type} (l : List α) (f : α → β) : (List.range l.length).filterMap (fun i => (l[i]?).map f) = l.map f := by
  have := congrArg (List.map f) (some_range l)
  rw [List.map_filterMap] at this
  exact this
theorem blank_one : (" " : Str).length = 1 := by decide +kernel
theorem sm_none {H H' : Hp} {p : Addr} (e : Same H H') (h : H' p = none) : H p = none := by
  cases z : H p with
  | none => rfl
  | some o => rw [e p o z] at h; cases h
theorem join_blanks : ∀ n : Nat, Txt.join "" (List.replicate n " ") = spc n := by
  have g : ∀ n : Nat, TL.joinL [] (List.replicate n [32]) = List.replicate n 32 := by
    intro n
    induction n with
    | zero => rfl
    | succ n ih =>
      cases n with
      | zero => rfl
      | succ n =>
        show [32] ++ ([] ++ TL.joinL [] (List.replicate (n + 1) [32])) = _
        rw [ih]
        rfl
  intro n
  refine str_ext ?_
  show TL.tl (Txt.join "" (List.replicate n " ")) = _
  rw [TL.join_eq, TL.tl_join, List.map_replicate, show TL.tl (" " : Str) = [32] from blank_list, show TL.tl ("" : Str) = [] from by decide +kernel, g]
  rfl
theorem blanks_sum (n : Nat) : ((List.replicate n (" " : Str)).map (·.length)).sum = n := by
  rw [List.map_replicate, blank_one, List.sum_replicate_nat]
  omega
/-- the lines of the first bodies -/
theorem lnR_next {i : Nat} {s : Stm} {j : Nat} {b : List Stm} (h : s.bodies[j]? = some b) : lnR i (s.bodies.take (j + 1)) = lnR i (s.bodies.take j) ++ (if j = 1 then [elseL i] else []) ++ lnB (i + 2) b := by
  rcases bodies_cases s with h0 | ⟨a, h0⟩ | ⟨a, c, h0⟩ <;> rw [h0] at h ⊢
  · simp at h
  · match j, h with
    | 0, h => cases h; simp [lnR]
    | j + 1, h => simp at h
  · match j, h with
    | 0, h => cases h; simp [lnR]
    | 1, h => cases h; simp [lnR]
    | j + 2, h => simp at h
end RM

set_option Elab.async false
set_option linter.all false
set_option maxRecDepth 100000
set_option maxHeartbeats 2000000
set_option pp.maxSteps 400
set_option pp.deepTerms false
namespace RM
open PySem PySem.Spec PyProof.Rows L2
section
variable {P : Program} {w : World} {K : PySem.W.Frag} {mg : Str → Option Value} {base : Heap}
mutual
theorem lnS_each (i : Nat) : ∀ s : Stm, wS s = true → ∀ z ∈ lnS i s, z.length ≤ i + 2 * dS s + 21
  | .read v k, h, z, hz => by
    rw [lnS, List.mem_singleton] at hz
    have := line_len (i := i) (wl_of h)
    rw [hz]; omega
  | .set v n, h, z, hz => by
    rw [lnS, List.mem_singleton] at hz
    have := line_len (i := i) (wl_of h)
    rw [hz]; omega
  | .copy v u, h, z, hz => by
    rw [lnS, List.mem_singleton] at hz
    have := line_len (i := i) (wl_of h)
    rw [hz]; omega
  | .print v, h, z, hz => by
    rw [lnS, List.mem_singleton] at hz
    have := line_len (i := i) (wl_of h)
    rw [hz]; omega
  | .say n, h, z, hz => by
    rw [lnS, List.mem_singleton] at hz
    have := line_len (i := i) (wl_of h)
    rw [hz]; omega
  | .wait, h, z, hz => by
    rw [lnS, List.mem_singleton] at hz
    have := line_len (i := i) (wl_of h)
    rw [hz]; omega
  | .stop, h, z, hz => by
    rw [lnS, List.mem_singleton] at hz
    have := line_len (i := i) (wl_of h)
    rw [hz]; omega
  | .ite v n a b, h, z, hz => by
    have hl := line_len (i := i) (wl_of h)
    have el := else_len i
    simp only [wS, Bool.and_eq_true] at h
    have h1 := lnB_each (i + 2) a h.2.1
    have h2 := lnB_each (i + 2) b h.2.2
    simp only [lnS, List.mem_cons, List.mem_append] at hz
    simp only [dS]
    rcases hz with rfl | hz | rfl | hz
    · omega
    · have := h1 z hz; omega
    · omega
    · have := h2 z hz; omega
  | .same v u a b, h, z, hz => by
    have hl := line_len (i := i) (wl_of h)
    have el := else_len i
    simp only [wS, Bool.and_eq_true] at h
    have h1 := lnB_each (i + 2) a h.2.1
    have h2 := lnB_each (i + 2) b h.2.2
    simp only [lnS, List.mem_cons, List.mem_append] at hz
    simp only [dS]
    rcases hz with rfl | hz | rfl | hz
    · omega
    · have := h1 z hz; omega
    · omega
    · have := h2 z hz; omega
  | .rep n a, h, z, hz => by
    have hl := line_len (i := i) (wl_of h)
    simp only [wS, Bool.and_eq_true] at h
    have h1 := lnB_each (i + 2) a h.2
    simp only [lnS, List.mem_cons] at hz
    simp only [dS]
    rcases hz with rfl | hz
    · omega
    · have := h1 z hz; omega
theorem lnB_each (i : Nat) : ∀ l : List Stm, wB l = true → ∀ z ∈ lnB i l, z.length + 2 ≤ i + 2 * dB l + 21
  | [], _, z, hz => by simp [lnB] at hz
  | s :: r, h, z, hz => by
    simp only [wB, Bool.and_eq_true] at h
    rw [lnB, List.mem_append] at hz
    simp only [dB]
    rcases hz with hz | hz
    · have := lnS_each i s h.1 z hz; omega
    · have := lnB_each i r h.2 z hz; omega
end
theorem sum_le {l : List Str} {m : Nat} (h : ∀ z ∈ l, z.length ≤ m) : (l.map (·.length)).sum ≤ l.length * m := by
  induction l with
  | nil => simp
  | cons a r ih =>
    have h1 := h a List.mem_cons_self
    have h2 := ih fun z hz => h z (List.mem_cons_of_mem _ hz)
    rw [List.map_cons, List.sum_cons, List.length_cons, Nat.add_mul]
    omega
def textOf (l : List Stm) : Str := Txt.join "\n" (lnB 0 l)
theorem feed_one : ("\n" : Str).length = 1 := by decide +kernel
theorem lines_fit {l : List Stm} (hw : wB l = true) (hd : dB l ≤ 4) (hc : cB l ≤ 60) : ((lnB 0 l).map (·.length)).sum + (lnB 0 l).length * ("\n" : Str).length ≤ 10000 := by
  have h1 : ((lnB 0 l).map (·.length)).sum ≤ (lnB 0 l).length * 30 := sum_le fun z hz => by have := lnB_each 0 l hw z hz; omega
  have h2 := lnB_cnt 0 l
  rw [feed_one]
  have h3 : (lnB 0 l).length * 30 ≤ 120 * 30 := Nat.mul_le_mul_right _ (by omega)
  omega
end
end RM

set_option Elab.async false
set_option linter.all false
set_option maxRecDepth 100000
/-! zip(a list, a text) -/
namespace RM
open PySem PySem.Spec
open PyProof.Rows
open L2
def ItzLS (K : PySem.W.Frag) (a : Addr) (z : Str) : It :=
  ⟨fun i H => ∃ (xs : List V) (x : V) (c : Nat), SqL K H a xs ∧ xs[i]? = some x ∧ z.cps[i]? = some c,
    fun i H v H' => ∃ T x c, v = .ref T ∧ H T = none ∧ H' = upd H T (.tup [x, .str ⟨#[c]⟩]) ∧ (∀ xs, SqL K H a xs → xs[i]? = some x) ∧ z.cps[i]? = some c,
    fun i H => ∃ xs : List V, SqL K H a xs ∧ min xs.length z.cps.size = i⟩
theorem turn_zipLS {P : Program} {w : World} {K : PySem.W.Frag} {elts : List Expr} {kk : Nat} {tpos : Pos} {a z TI TO i1 i2 : Addr} {x : Str} {tx : Tok} (S : ZipSep2 z TI TO i1 i2 [i1, a] [i2]) (hai : a ≠ i1) :
    Turn P w K (.Tuple elts kk tpos) (ItzLS K a x) [z, TI, TO, i1, i2] z (fun i h => IsZip h z TI TO .none ∧ IsTupOf2 h TI (.ref i1) (.ref i2) ∧ (∃ a1 a2, IsTupOf2 h TO a1 a2) ∧ h.IsListIter i1 a i ∧ h.IsStrIter i2 (strIterType x) x tx i) := by
  refine turn_pair (by simp) (fun i h st b hb => ?_) (fun i h h' st k => ?_) (fun A i s Q E st h => wpAny_pyIter_zip st.1 h) ?_ ?_
  · obtain ⟨zi, ti, ⟨_, _, to_⟩, ⟨o1, e1, _, d1⟩, ⟨o2, e2, _, d2⟩⟩ := st
    simp only [List.mem_cons, List.not_mem_nil, or_false] at hb ⊢
    have fl : ∀ {o : Obj} {vs : Array Value}, o.data = .fields vs → ∀ v, o.data ≠ .cell v := fun d v no => by simp [d] at no
    obtain rfl | rfl | rfl | rfl | rfl := hb
    · exact ⟨_, zi, fun v => nofun⟩
    · exact ⟨_, ti, fun v => nofun⟩
    · exact ⟨_, to_, fun v => nofun⟩
    · exact ⟨o1, e1, fl d1⟩
    · exact ⟨o2, e2, fl d2⟩
  · obtain ⟨hz, hTI, ⟨a1, a2, hTO⟩, h1, h2⟩ := st
    exact ⟨k z (by simp) _ hz, k TI (by simp) _ hTI, ⟨a1, a2, k TO (by simp) _ hTO⟩, h1.at fun o q => k i1 (by simp) o q, let ⟨o, ho, r⟩ := h2; ⟨o, k i2 (by simp) o ho, r⟩⟩
  · rintro X rfl rfl rfl i pins s σ H I hh ⟨hz, hTI, hTO, h1, h2⟩ ⟨xs, y, c, hq, hx, hc⟩
    obtain ⟨its, rv, p, _⟩ := I.list hq
    obtain ⟨u, hu, ru⟩ := Vals.get (xs := xs) rv hx
    have pt : s.heap.IsList a its.toArray := p.isList
    have W := GoesN.zip2 (prog := X.prog) (w := X.w) (A := X.A) (elts := elts) (x1 := kk) (pos := tpos) S (Draws.list (prog := X.prog) (w := X.w) (A := X.A.in1) hh i1 a hai its.toArray) (Draws.text (prog := X.prog) (w := X.w) (A := X.A.in1) hh i2 x tx)
    refine ⟨_, _, _, _, _, W, ?_, ⟨hz, hTI, hTO, ⟨h1, pt⟩, h2⟩, by simp, ?_⟩
    · have l1 : i < its.length := (List.getElem?_eq_some_iff.mp hu).1
      have l2 : i < x.cps.size := (Array.getElem?_eq_some_iff.mp hc).1
      simp only [List.size_toArray]
      omega
    · rintro v h' ⟨T, x', y', rfl, hT, hx', ⟨c', t', hc', rfl⟩, ht⟩ ⟨hz', hTI', hTO', ⟨h1', _⟩, h2'⟩
      have hx2 : its[i]? = some x' := by simpa using hx'
      rw [hu] at hx2
      cases hx2
      rw [hc] at hc'
      cases hc'
      refine ⟨T, _, _, y, .str ⟨#[c]⟩, rfl, hT, ht, ru, ⟨t', rfl⟩, ⟨hz', hTI', hTO', h1', h2'⟩, T, y, c, rfl, I.hok.fresh hT, rfl, fun l hl => ?_, hc⟩
      rw [I.list_inj hl hq]
      exact hx
  · rintro X rfl rfl rfl i pins s σ H I hh ⟨hz, hTI, hTO, h1, h2⟩ ⟨xs, hq, hl⟩
    obtain ⟨its, rv, p, _⟩ := I.list hq
    have pt : s.heap.IsList a its.toArray := p.isList
    have W := GoesN.zip2 (prog := X.prog) (w := X.w) (A := X.A) (elts := elts) (x1 := kk) (pos := tpos) S (Draws.list (prog := X.prog) (w := X.w) (A := X.A.in1) hh i1 a hai its.toArray) (Draws.text (prog := X.prog) (w := X.w) (A := X.A.in1) hh i2 x tx)
    have hl2 : min its.toArray.size x.cps.size = i := by
      have q := rv.length
      simp only [List.size_toArray]
      omega
    rw [hl2] at W
    exact ⟨_, _, _, _, W, ⟨hz, hTI, hTO, ⟨h1, pt⟩, h2⟩, by simp⟩
def iZipLS (K : PySem.W.Frag) (ta : TA) : TI := fun σ H R => ta σ H fun vs H1 => ∃ a xs z, vs = [.ref a, .str z] ∧ SqL K H1 a xs ∧ R (ItzLS K a z) H1
theorem pi_zipLS {X : Cx} {e e2 : Expr} {ta : TA} {p pos tpos : Pos} {elts : List Expr} {kk : Nat} (hg : Gl X "zip") (hm : X.mg "zip" = none) (ha : PA X [e, e2] ta)
    (two : starEach [e, e2] X.env = (false, eval e X.env) :: starEach [e2] X.env := by rfl)
    (plain : (backTo pos (starEach [e2] X.env)).any (·.1) = false := by rfl) : PI X (.Tuple elts kk tpos) (.Call (.Name "zip" p) [e, e2] [] pos) (iZipLS X.K ta) := by
  constructor
  intro pins s σ H R inv pre
  refine Call_ (ld_blt inv hg hm PyProof.Rows.boot_zip (PyProof.Rows.callWith_type1 (thn (ha.run pos pins s σ H _ inv pre) ?_) two plain))
  rintro us s1 ⟨_, H1, inv1, rel, a, xs, z, rfl, sq, r⟩
  obtain ⟨_, u, rfl, rfl, ⟨tx, rfl⟩⟩ := vals2 rel
  obtain ⟨its, _, at_, _⟩ := inv1.list sq
  have low : a < s1.heap.objs.size := at_.lt
  have sep := zip_sep2 (N := s1.heap.objs.size) (fp1 := [a]) (fp2 := []) (fun b hb => (List.mem_singleton.mp hb).symm ▸ low) nofun
  exact zip_begins2 (begins_list a its.toArray) (begins_text z tx) at_.isList trivial fun hp zi ti to_ i1 i2 _ old =>
    wpAny_pyIter_zip zi ⟨_, _, _, _, H1, rfl, inv1.kept (t' := s1.toks) old, turn_zipLS sep (Nat.ne_of_lt low), ⟨zi, ti, ⟨_, _, to_⟩, ⟨_, i1, rfl, rfl⟩, ⟨_, i2, rfl, rfl⟩⟩, late5 inv1, r⟩
theorem walk_zipLS {K : PySem.W.Frag} {a : Addr} {xs : List V} {z : Str} (hl : xs.length = z.cps.size) : Walk (ItzLS K a z) xs.length (fun H => SqL K H a xs) (YPair (fun i => xs[i]?) (fun i => (z.cps[i]?).map fun c => .str ⟨#[c]⟩)) where
  goes := fun i H hi h => ⟨xs, xs[i], z.cps[i]'(by omega), h, by simp [hi], by simp⟩
  stops := fun H h => ⟨xs, h, by omega⟩
  yields := fun i H x H' hi h ⟨T, y, c, e1, e2, e3, e4, e5⟩ => ⟨T, y, _, e1, e2, e3, e4 xs h, by show Option.map _ z.cps[i]? = _; rw [e5]; rfl⟩
end RM

set_option Elab.async false
set_option linter.all false
set_option maxRecDepth 100000
set_option maxHeartbeats 2000000
set_option pp.maxSteps 400
set_option pp.deepTerms false
namespace RM
open PySem PySem.Spec PyProof.Rows L2
section
variable {P : Program} {w : World} {K : PySem.W.Frag} {mg : Str → Option Value} {base : Heap}
/-! ### number_of -/
def optV : Option Int → V
  | none => .non
  | some n => .int n
def spNum : Sp := fun vs H Q _ => match vs with
  | [x] => ∃ z : Str, x = .str z ∧ z.length ≤ 1000 ∧ Q (optV (numOf z)) H
  | _ => False
theorem sc_number_of : FnScope ["word", "figures", "figure"] ["word"] (defScope s_number_of) := ⟨rfl, rfl, rfl, by decide +kernel, rfl, by decide +kernel, by decide +kernel⟩
theorem minus_iff (z : Str) : V.str (cutS z none (some 1)) = V.str "-" ↔ (cl z).take 1 = [45] := by
  have e : cl ("-" : Str) = [45] := by decide +kernel
  constructor
  · intro h
    injection h with h1
    have h2 := congrArg cl h1
    rwa [show (some (1 : Int)) = some ((1 : Nat) : Int) from rfl, cut_pre, e] at h2
  · intro h
    refine congrArg V.str (str_ext ?_)
    show cl (cutS z none (some ((1 : Nat) : Int))) = cl "-"
    rw [cut_pre, e, h]
theorem zero_iff (z : Str) : V.str z = V.str "0" ↔ cl z = [48] := by
  have e : cl ("0" : Str) = [48] := by decide +kernel
  constructor
  · intro h
    injection h with h1
    rw [h1, e]
  · intro h
    exact congrArg V.str (str_ext (h.trans e.symm))
theorem numOf_no {z : Str} (h : (figs z).length = 0 ∨ 2 < (figs z).length ∨ ((figs z)[0]? = some 48 ∧ cl z ≠ [48]) ∨ (figs z).all isDig = false) : numOf z = none := by unfold numOf; rw [if_pos h]
theorem numOf_yes {z : Str} (h : ¬ ((figs z).length = 0 ∨ 2 < (figs z).length ∨ ((figs z)[0]? = some 48 ∧ cl z ≠ [48]) ∨ (figs z).all isDig = false)) : ∃ n, PySem.intText? z = some n ∧ numOf z = some n := by
  have h' := h
  simp only [not_or, Bool.not_eq_false] at h'
  obtain ⟨n, e, _⟩ := fig_int h'.1 h'.2.1 h'.2.2.2
  exact ⟨n, e, by unfold numOf; rw [if_neg h, e]⟩
theorem figs_len (z : Str) : (figs z).length ≤ z.length := by
  rw [← cl_len]
  unfold figs
  split
  · rw [List.length_drop]; omega
  · exact Nat.le_refl _
theorem figs_more (z : Str) : z.length ≤ (figs z).length + 1 := by
  rw [← cl_len]
  unfold figs
  split
  · rw [List.length_drop]; omega
  · omega
theorem c_number_of (T : Top w K mg) : Cal P w K mg base CX0 1 "number_of" spNum := by
  refine cal_0 (f_number_of T) (g_number_of T) sc_number_of (fun _ _ _ _ _ _ us hl => match us, hl with | [_], _ => rfl) (fun vs H Q E h => match vs, h with | [_], _ => rfl) (fun cdv A outer s H vs Q E hr h => ?_)
  match vs, h with
  | [x], h =>
  obtain ⟨z, rfl, hz, q⟩ := h
  have hz' : z.length ≤ sizeLine := Nat.le_of_lt (small1000 hz)
  have no := fun h => show Q .non H from by have := q; rw [numOf_no h] at this; exact this
  refine ⟨_, (pss_cons (ps_set (i := 1) sc_number_of.nd rfl (Or.inl rfl) (pv 0))
    (pss_cons (ps_mid (ps_if (pt_cmpR op_eq (pe_slice sl_str (pv 0) po_none (po_some pe_int)) pe_str (nomark _))
      (pss_one (ps_set (i := 1) sc_number_of.nd rfl (Or.inl rfl) (pe_slice sl_str (pv 0) (po_some pe_int) po_none)))
      pss_nil))
    (pss_cons (ps_mid (ps_if (PW.pt (pw_or (pt_not (pt_chain op_le op_le pe_int (pcb (z_len T) call_len_str boot_len (pa_cons (pv 1) pa_nil)) pe_int)) (pw_or1 (PW.pt (pw_and (pt_cmpR op_eq (pe_ix ix_str (pv 1) pe_int (fun _ _ => rfl)) pe_str (nomark _)) (pw_and1 (pt_cmpR op_ne (pv 0) pe_str (nomark _))))))))
      (pss_one (ps_ret pe_non))
      pss_nil))
    (pss_cons (ps_for PassesOwn.never rfl (pi_str (pv 1)) (pg_name (i := 2) sc_number_of.nd rfl (Or.inl rfl))
      (pss_one (ps_if (pt_cmpR op_notIn_sign (pv 2) (pglS (i_FIGURES T)) rfl)
      (pss_one (ps_ret pe_non))
      pss_nil)))
    (pss_one (ps_ret (pct (z_int T) call_int_str boot_int (pa_cons (pv 0) pa_nil)))))))), ?_⟩
  refine ⟨_, rfl, fun σ H' => H' = H ∧ ∃ F v, σ = [some (.str z), some (.str F), v] ∧ cl F = figs z, ?_, ?_⟩
  · refine ⟨_, rfl, _, rfl, z, rfl, hz', rfl, _, rfl, ?_⟩
    refine ifB (fun c => ?_) (fun c => ?_)
    · refine ⟨_, rfl, _, rfl, z, rfl, hz', rfl, _, _, rfl, ?_⟩
      have := (minus_iff z).mp (of_decide_eq_true c)
      rw [show (some (1 : Int)) = some ((1 : Nat) : Int) from rfl, cut_suf]
      unfold figs
      rw [if_pos this]
    · refine ⟨rfl, z, _, rfl, ?_⟩
      have := fun h => of_decide_eq_false c ((minus_iff z).mpr h)
      unfold figs
      rw [if_neg this]
  · rintro σ H' ⟨rfl, F, v, rfl, hF⟩
    have lF : F.length = (figs z).length := by rw [← cl_len, hF]
    have lz := figs_len z
    refine ⟨fun σ H1 => H1 = H' ∧ ∃ F v, σ = [some (.str z), some (.str F), v] ∧ cl F = figs z ∧ ¬ ((figs z).length = 0 ∨ 2 < (figs z).length ∨ ((figs z)[0]? = some 48 ∧ cl z ≠ [48])), ?_, ?_⟩
    · refine ⟨_, rfl, _, rfl, Nat.le_of_lt (small1000 (by omega)), _, _, rfl, rfl, _, rfl, ?_⟩
      by_cases c1 : 1 ≤ (F.length : Int)
      case neg =>
        rw [decide_eq_false c1]
        exact iteF ⟨_, rfl, iteT (iteT (no (.inl (by omega))))⟩
      rw [decide_eq_true c1]
      refine iteT ?_
      refine ⟨_, _, rfl, rfl, _, rfl, ?_⟩
      by_cases c2 : (F.length : Int) ≤ 2
      case neg =>
        rw [decide_eq_false c2]
        exact iteT (iteT (no (.inr (.inl (by omega)))))
      rw [decide_eq_true c2]
      refine iteF ?_
      obtain ⟨c0, hc0⟩ : ∃ c0, (cl F)[0]? = some c0 := ⟨(cl F)[0]'(by rw [cl_len]; omega), by simp⟩
      have hc1 := hc0
      rw [hF] at hc1
      refine ⟨_, rfl, F, 0, c0, rfl, rfl, Nat.le_of_lt (small1000 (by omega)), atI_nat (j := 0) hc0, rfl, _, rfl, ?_⟩
      have e0 : ("0" : Str) = ⟨#[48]⟩ := by decide +kernel
      rw [e0, sgn]
      by_cases c3 : c0 = 48
      · subst c3
        refine iteT ?_
        refine ⟨_, rfl, rfl, _, rfl, ?_⟩
        by_cases c4 : cl z = [48]
        · refine ifF (by rw [← e0, decide_eq_true ((zero_iff z).mpr c4)]; rfl) ?_
          exact ⟨rfl, F, v, rfl, hF, by rw [not_or, not_or]; exact ⟨by omega, by omega, fun h => h.2 c4⟩⟩
        · refine ifT (by rw [← e0, decide_eq_false fun h => c4 ((zero_iff z).mp h)]; rfl) ?_
          exact no (.inr (.inr (.inl ⟨hc1, c4⟩)))
      · rw [decide_eq_false c3]
        refine iteF (iteF ⟨rfl, F, v, rfl, hF, ?_⟩)
        rw [not_or, not_or]
        exact ⟨by omega, by omega, fun h => c3 (by rw [hc1] at h; exact Option.some.inj h.1)⟩
    rintro σ H' ⟨rfl, F, v, rfl, hF, ok⟩
    have lF : F.length = (figs z).length := by rw [← cl_len, hF]
    refine ⟨_, rfl, F, rfl, for_it walk_str (fun i σ H1 => H1 = H' ∧ (∃ v, σ = [some (.str z), some (.str F), v]) ∧ ((figs z).take i).all isDig = true) ⟨rfl, ⟨_, rfl⟩, rfl⟩ (fun _ _ _ _ _ => trivial) ?_ ?_⟩
    · rintro i x σ H1 H2 hi ⟨rfl, ⟨v, rfl⟩, hal⟩ ⟨rfl, c, hc, rfl⟩
      have hc' : (figs z)[i]? = some c := by rw [← hF]; simpa using hc
      refine ⟨_, rfl, c, _, rfl, rfl, _, rfl, ?_⟩
      by_cases m : c ∈ ("0123456789" : Str).cps.toList
      · rw [decide_eq_true m]
        refine iteF ⟨rfl, ⟨_, rfl⟩, ?_⟩
        rw [List.take_add_one, hc', List.all_append, hal]
        show ([c].all isDig) = true
        simp only [List.all_cons, List.all_nil, Bool.and_true]
        exact decide_eq_true m
      · rw [decide_eq_false m]
        refine iteT (no (.inr (.inr (.inr ?_))))
        rw [List.all_eq_false]
        exact ⟨c, List.mem_of_getElem? hc', by unfold isDig; rw [decide_eq_false m]; exact Bool.false_ne_true⟩
    · rintro σ H1 ⟨rfl, ⟨v, rfl⟩, hal⟩
      have lf : F.cps.toList.length = (figs z).length := by rw [← hF]
      rw [List.take_of_length_le (by first | omega | (rw [← hF]; simp))] at hal
      obtain ⟨n, e1, e2⟩ := numOf_yes (z := z) (by rw [not_or, not_or, not_or]; rw [not_or, not_or] at ok; exact ⟨ok.1, ok.2.1, ok.2.2, by rw [hal]; simp⟩)
      rw [e2] at q
      refine ⟨_, rfl, z, n, rfl, e1, ?_, q⟩
      have := figs_more z
      omega
end
end RM

set_option Elab.async false
set_option linter.all false
set_option maxRecDepth 100000
set_option maxHeartbeats 2000000
set_option pp.maxSteps 400
set_option pp.deepTerms false
namespace RM
open PySem PySem.Spec PyProof.Rows L2
section
variable {P : Program} {w : World} {K : PySem.W.Frag} {mg : Str → Option Value} {base : Heap}
/-! ### item_of -/
def itemOf (z : Str) (c : Nat) : V :=
  if c = 107 then (if isWord z = true then .str z else .non) else
    match numOf z with
    | none => .non
    | some n => if c = 116 ∧ ¬ (0 ≤ n ∧ n ≤ 3) then .non else .int n
def spItem : Sp := fun vs H Q _ => match vs with
  | [x, f] => ∃ (z : Str) (c : Nat), x = .str z ∧ z.length ≤ 1000 ∧ f = .str ⟨#[c]⟩ ∧ Q (itemOf z c) H
  | _ => False
theorem str_t : ("t" : Str) = ⟨#[116]⟩ := by decide +kernel
theorem sc_item_of : FnScope ["word", "sign", "number"] ["word", "sign"] (defScope s_item_of) := ⟨rfl, rfl, rfl, by decide +kernel, rfl, by decide +kernel, by decide +kernel⟩
theorem c_item_of (T : Top w K mg) : Cal P w K mg base CX0 2 "item_of" spItem := by
  refine cal_0 (f_item_of T) (g_item_of T) sc_item_of (fun _ _ _ _ _ _ us hl => match us, hl with | [_, _], _ => rfl) (fun vs H Q E h => match vs, h with | [_, _], _ => rfl) (fun cdv A outer s H vs Q E hr h => ?_)
  match vs, h with
  | [x, f], h =>
  obtain ⟨z, c, rfl, hz, rfl, q⟩ := h
  unfold itemOf at q
  refine ⟨_, (pss_cons (ps_if (pt_cmpR op_eq (pv 1) pe_str (nomark _))
      (pss_cons (ps_if (pt_val (pc (c_is_word T) hr (pa_cons (pv 0) pa_nil)))
      (pss_one (ps_ret (pv 0)))
      pss_nil)
    (pss_one (ps_ret pe_non)))
      pss_nil)
    (pss_cons (ps_set (i := 2) sc_item_of.nd rfl (Or.inl rfl) (pc (c_number_of T) hr (pa_cons (pv 0) pa_nil)))
    (pss_cons (ps_if (PW.pt (pw_or (pt_cmp (pc_isN (pv 2)) rfl) (pw_or1 (PW.pt (pw_and (pt_cmpR op_eq (pv 1) pe_str (nomark _)) (pw_and1 (pt_not (pt_chain op_le op_le pe_int (pv 2) pe_int))))))))
      (pss_one (ps_ret pe_non))
      pss_nil)
    (pss_one (ps_ret (pv 2)))))), ?_⟩
  refine ⟨_, rfl, rfl, _, rfl, ?_⟩
  rw [str_k, sgn]
  by_cases ck : c = 107
  · rw [if_pos ck] at q
    rw [decide_eq_true ck]
    refine iteT ?_
    refine ⟨_, rfl, z, rfl, Nat.le_of_lt (small1000 hz), _, rfl, ?_⟩
    by_cases hw : isWord z = true
    · rw [if_pos hw] at q
      exact ifT hw ⟨_, rfl, q⟩
    · rw [if_neg hw] at q
      exact ifF (by simpa using hw) q
  · rw [if_neg ck] at q
    rw [decide_eq_false ck]
    refine iteF ?_
    refine ⟨_, rfl, z, rfl, hz, ?_⟩
    refine ⟨_, rfl, ?_⟩
    cases hn : numOf z with
    | none =>
      rw [hn] at q
      dsimp only at q
      exact ⟨true, rfl, ifT rfl (ifT rfl q)⟩
    | some n =>
      rw [hn] at q
      dsimp only at q
      refine ⟨false, rfl, ifF rfl ?_⟩
      refine ⟨_, rfl, rfl, _, rfl, ?_⟩
      rw [str_t, sgn]
      by_cases ct : c = 116
      · rw [decide_eq_true ct]
        refine iteT ?_
        refine ⟨_, rfl, _, _, rfl, rfl, _, rfl, ?_⟩
        by_cases n0 : 0 ≤ n
        · rw [decide_eq_true n0]
          refine iteT ⟨_, _, rfl, rfl, _, rfl, ?_⟩
          by_cases n3 : n ≤ 3
          · rw [decide_eq_true n3]
            rw [if_neg fun h => h.2 ⟨n0, n3⟩] at q
            exact iteF ⟨_, rfl, q⟩
          · rw [decide_eq_false n3]
            rw [if_pos ⟨ct, fun h => n3 h.2⟩] at q
            exact iteT q
        · rw [decide_eq_false n0]
          rw [if_pos ⟨ct, fun h => n0 h.1⟩] at q
          exact iteF ⟨_, rfl, iteT q⟩
      · rw [decide_eq_false ct]
        rw [if_neg fun h => ct h.1] at q
        exact iteF (iteF ⟨_, rfl, q⟩)
end
end RM

set_option Elab.async false
set_option linter.all false
set_option maxRecDepth 100000
set_option maxHeartbeats 2000000
namespace RM
open PySem PySem.Spec PyProof.Rows L2
/-! ### numbers back -/
def backChk (l : List Nat) : Bool := (match numOf ⟨l.toArray⟩ with | some n => decide (numT n = ⟨l.toArray⟩) | none => true) && (match numOf ⟨(45 :: l).toArray⟩ with | some n => decide (numT n = ⟨(45 :: l).toArray⟩) | none => true)
theorem back_all : figL.all backChk = true := by decide +kernel
theorem num_line {z : Str} {n : Int} (h : numOf z = some n) : numT n = z := by
  have h' := h
  unfold numOf at h'
  split at h'
  · cases h'
  rename_i c
  simp only [not_or, Bool.not_eq_false] at c
  have k := List.all_eq_true.mp back_all _ (fig_mem c.1 c.2.1 c.2.2.2)
  unfold backChk at k
  rw [Bool.and_eq_true] at k
  have e : z = ⟨(figs z).toArray⟩ ∨ z = ⟨(45 :: figs z).toArray⟩ := by
    unfold figs
    split
    · rename_i t
      refine .inr (str_ext ?_)
      show cl z = 45 :: (cl z).drop 1
      rw [← List.take_append_drop 1 (cl z), t]
      rfl
    · exact .inl (str_ext rfl)
  rcases e with e | e
  · have k1 := k.1
    rw [← e, h] at k1
    exact of_decide_eq_true k1
  · have k1 := k.2
    rw [← e, h] at k1
    exact of_decide_eq_true k1
theorem split_ne (z : Str) : Txt.split z " " ≠ [] := fun h => by
  have := PyProof.Rows.split_pos z " "
  rw [h] at this
  exact absurd this (by decide)
theorem joinL_part (S : List Nat) : ∀ (ps : List (List Nat)) (p : List Nat), p ∈ ps → p.length ≤ (TL.joinL S ps).length ∧ ∀ c ∈ p, c ∈ TL.joinL S ps
  | [], p, h => by simp at h
  | [a], p, h => by rw [List.mem_singleton] at h; subst h; exact ⟨Nat.le_refl _, fun c hc => hc⟩
  | a :: b :: r, p, h => by
    show p.length ≤ (a ++ (S ++ TL.joinL S (b :: r))).length ∧ ∀ c ∈ p, c ∈ a ++ (S ++ TL.joinL S (b :: r))
    rw [List.length_append, List.length_append]
    rcases List.mem_cons.mp h with rfl | h
    · exact ⟨by omega, fun c hc => List.mem_append_left _ hc⟩
    · obtain ⟨l, m⟩ := joinL_part S (b :: r) p h
      exact ⟨by omega, fun c hc => List.mem_append_right _ (List.mem_append_right _ (m c hc))⟩
theorem split_part {z y w : Str} (h : w ∈ Txt.split z y) : w.length ≤ z.length ∧ ∀ c ∈ cl w, c ∈ cl z := by
  have j : cl z = TL.joinL (TL.tl y) ((Txt.split z y).map TL.tl) := by
    rw [← TL.tl_join, PySem.StrLaws.join_split]
  obtain ⟨a, b⟩ := joinL_part (TL.tl y) _ (TL.tl w) (List.mem_map.mpr ⟨w, h, rfl⟩)
  rw [← j] at a b
  rw [← cl_len, ← cl_len]
  exact ⟨a, b⟩
theorem blank_one' : TL.tl (" " : Str) = [32] := by decide +kernel
end RM

set_option Elab.async false
set_option linter.all false
set_option maxRecDepth 100000
set_option maxHeartbeats 2000000
namespace RM
open PySem PySem.Spec PyProof.Rows L2
/-! ### heads of statements, read from any line -/
def vD : PyData → V
  | .str z => .str z
  | .int n => .int n
  | _ => .non
def temp (w : Str) : Option Stm :=
  if w = "read" then some (.read "" "") else if w = "set" then some (.set "" 0) else if w = "copy" then some (.copy "" "") else if w = "print" then some (.print "") else
  if w = "say" then some (.say 0) else if w = "wait" then some .wait else if w = "if" then some (.ite "" 0 [] []) else if w = "same" then some (.same "" "" [] []) else
  if w = "repeat" then some (.rep 0 []) else if w = "stop" then some .stop else none
def fillS : Stm → List V → Stm
  | .read .., [.str a, .str b] => .read a b
  | .set .., [.str a, .int n] => .set a n
  | .copy .., [.str a, .str b] => .copy a b
  | .print _, [.str a] => .print a
  | .say _, [.int n] => .say n
  | .ite .., [.str a, .int n] => .ite a n [] []
  | .same .., [.str a, .str b] => .same a b [] []
  | .rep .., [.int n] => .rep n []
  | s, _ => s
/-- the signs of the items that are no bodies -/
def Stm.sg (s : Stm) : List Nat := s.signs.take s.flats.length
def itemsV (t : Stm) (ws : List Str) : List V := List.zipWith itemOf ws t.sg
def headW : List Str → Option Stm
  | [] => none
  | w :: ws => (temp w).bind fun t => if ws.length = t.flats.length then (if (itemsV t ws).any (fun v => decide (v = V.non)) = true then none else some (fillS t (itemsV t ws))) else none
def headS (i : Nat) (z : Str) : Option Stm := if cutS z none (some (i : Int)) = spc i then headW (Txt.split (cutS z (some (i : Int)) none) " ") else none
theorem temp_word {w : Str} {t : Stm} (h : temp w = some t) : t.word = w ∧ t.bodies = t.bodies.map fun _ => [] := by
  unfold temp at h
  repeat (split at h; (rename_i e; cases h; rw [e]; exact ⟨rfl, rfl⟩))
  cases h
theorem temp_none {w : Str} (h : temp w = none) : w ∉ (["read", "set", "copy", "print", "say", "wait", "if", "same", "repeat", "stop"] : List Str) := by
  unfold temp at h
  repeat (split at h; cases h)
  simp only [List.mem_cons, List.not_mem_nil, or_false, not_or]
  exact ⟨by assumption, by assumption, by assumption, by assumption, by assumption, by assumption, by assumption, by assumption, by assumption, by assumption⟩
theorem temp_shape {w : Str} {t : Stm} (h : temp w = some t) : t = .read "" "" ∨ t = .set "" 0 ∨ t = .copy "" "" ∨ t = .print "" ∨ t = .say 0 ∨ t = .wait ∨ t = .ite "" 0 [] [] ∨ t = .same "" "" [] [] ∨ t = .rep 0 [] ∨ t = .stop := by
  unfold temp at h
  repeat (split at h; (cases h; simp))
  cases h
theorem item107 {z : Str} (h : itemOf z 107 ≠ .non) : itemOf z 107 = .str z ∧ isWord z = true := by
  unfold itemOf at h ⊢
  rw [if_pos rfl] at h ⊢
  by_cases c : isWord z = true
  · rw [if_pos c]; exact ⟨rfl, c⟩
  · rw [if_neg c] at h; exact absurd rfl h
theorem item118 {z : Str} (h : itemOf z 118 ≠ .non) : ∃ n, itemOf z 118 = .int n ∧ numT n = z ∧ isValue n = true := by
  unfold itemOf at h ⊢
  rw [if_neg (by decide)] at h ⊢
  cases e : numOf z with
  | none => rw [e] at h; exact absurd rfl h
  | some n =>
    refine ⟨n, ?_, num_line e, numOf_val e⟩
    dsimp only
    rw [if_neg fun c => absurd c.1 (by decide)]
theorem item116 {z : Str} (h : itemOf z 116 ≠ .non) : ∃ n, itemOf z 116 = .int n ∧ numT n = z ∧ 0 ≤ n ∧ n ≤ 3 := by
  unfold itemOf at h ⊢
  rw [if_neg (by decide)] at h ⊢
  cases e : numOf z with
  | none => rw [e] at h; exact absurd rfl h
  | some n =>
    rw [e] at h
    dsimp only at h ⊢
    by_cases c : 0 ≤ n ∧ n ≤ 3
    · rw [if_neg fun k => k.2 c]
      exact ⟨n, rfl, num_line e, c⟩
    · rw [if_pos ⟨rfl, c⟩] at h
      exact absurd rfl h
/-- what a head's words tell -/
theorem head_words {w : Str} {ws : List Str} {s : Stm} (h : headW (w :: ws) = some s) : ∃ t, temp w = some t ∧ s.word = w ∧ s.toks = w :: ws ∧ wl s = true ∧ s.flats.map vD = itemsV t ws ∧ s.bodies = s.bodies.map (fun _ => []) ∧ s.flats.length = t.flats.length ∧ s.form = t.form ∧ s.bodies.length = t.bodies.length := by
  unfold headW at h
  obtain ⟨t, ht, h⟩ := Option.bind_eq_some_iff.mp h
  refine ⟨t, ht, ?_⟩
  have tw := (temp_word ht).1
  split at h
  case isFalse => cases h
  rename_i hl
  split at h
  case isTrue => cases h
  rename_i hn
  cases h
  have nn : ∀ v ∈ itemsV t ws, v ≠ V.non := fun v hv e => hn (List.any_eq_true.mpr ⟨v, hv, by rw [e]; exact decide_eq_true rfl⟩)
  clear hn
  rcases temp_shape ht with rfl | rfl | rfl | rfl | rfl | rfl | rfl | rfl | rfl | rfl <;> cases tw
  · match ws, hl with
    | [a, b], _ =>
      obtain ⟨ea, ha⟩ := item107 (nn (itemOf a 107) (by simp [itemsV, Stm.sg, Stm.signs, Stm.flats]))
      obtain ⟨eb, hb⟩ := item107 (nn (itemOf b 107) (by simp [itemsV, Stm.sg, Stm.signs, Stm.flats]))
      have ei : itemsV (.read "" "") [a, b] = [.str a, .str b] := by simp [itemsV, Stm.sg, Stm.signs, Stm.flats, ea, eb]
      rw [ei]
      refine ⟨rfl, ?_, ?_, rfl, rfl, rfl, rfl, rfl⟩
      · simp [fillS, Stm.toks, Stm.word, Stm.flats, tokD]
      · simp [fillS, wl, ha, hb]
  · match ws, hl with
    | [a, b], _ =>
      obtain ⟨ea, ha⟩ := item107 (nn (itemOf a 107) (by simp [itemsV, Stm.sg, Stm.signs, Stm.flats]))
      obtain ⟨nb, eb, bb, hb⟩ := item118 (nn (itemOf b 118) (by simp [itemsV, Stm.sg, Stm.signs, Stm.flats]))
      have ei : itemsV (.set "" 0) [a, b] = [.str a, .int nb] := by simp [itemsV, Stm.sg, Stm.signs, Stm.flats, ea, eb]
      rw [ei]
      refine ⟨rfl, ?_, ?_, rfl, rfl, rfl, rfl, rfl⟩
      · simp [fillS, Stm.toks, Stm.word, Stm.flats, tokD, bb]
      · simp [fillS, wl, ha, hb]
  · match ws, hl with
    | [a, b], _ =>
      obtain ⟨ea, ha⟩ := item107 (nn (itemOf a 107) (by simp [itemsV, Stm.sg, Stm.signs, Stm.flats]))
      obtain ⟨eb, hb⟩ := item107 (nn (itemOf b 107) (by simp [itemsV, Stm.sg, Stm.signs, Stm.flats]))
      have ei : itemsV (.copy "" "") [a, b] = [.str a, .str b] := by simp [itemsV, Stm.sg, Stm.signs, Stm.flats, ea, eb]
      rw [ei]
      refine ⟨rfl, ?_, ?_, rfl, rfl, rfl, rfl, rfl⟩
      · simp [fillS, Stm.toks, Stm.word, Stm.flats, tokD]
      · simp [fillS, wl, ha, hb]
  · match ws, hl with
    | [a], _ =>
      obtain ⟨ea, ha⟩ := item107 (nn (itemOf a 107) (by simp [itemsV, Stm.sg, Stm.signs, Stm.flats]))
      have ei : itemsV (.print "") [a] = [.str a] := by simp [itemsV, Stm.sg, Stm.signs, Stm.flats, ea]
      rw [ei]
      refine ⟨rfl, ?_, ?_, rfl, rfl, rfl, rfl, rfl⟩
      · simp [fillS, Stm.toks, Stm.word, Stm.flats, tokD]
      · simp [fillS, wl, ha]
  · match ws, hl with
    | [a], _ =>
      obtain ⟨na, ea, ba, ha⟩ := item118 (nn (itemOf a 118) (by simp [itemsV, Stm.sg, Stm.signs, Stm.flats]))
      have ei : itemsV (.say 0) [a] = [.int na] := by simp [itemsV, Stm.sg, Stm.signs, Stm.flats, ea]
      rw [ei]
      refine ⟨rfl, ?_, ?_, rfl, rfl, rfl, rfl, rfl⟩
      · simp [fillS, Stm.toks, Stm.word, Stm.flats, tokD, ba]
      · simp [fillS, wl, ha]
  · match ws, hl with
    | [], _ =>
      have ei : itemsV (.wait) [] = [] := by simp [itemsV, Stm.sg, Stm.signs, Stm.flats]
      rw [ei]
      refine ⟨rfl, ?_, ?_, rfl, rfl, rfl, rfl, rfl⟩
      · simp [fillS, Stm.toks, Stm.word, Stm.flats, tokD]
      · simp [fillS, wl]
  · match ws, hl with
    | [a, b], _ =>
      obtain ⟨ea, ha⟩ := item107 (nn (itemOf a 107) (by simp [itemsV, Stm.sg, Stm.signs, Stm.flats]))
      obtain ⟨nb, eb, bb, hb⟩ := item118 (nn (itemOf b 118) (by simp [itemsV, Stm.sg, Stm.signs, Stm.flats]))
      have ei : itemsV (.ite "" 0 [] []) [a, b] = [.str a, .int nb] := by simp [itemsV, Stm.sg, Stm.signs, Stm.flats, ea, eb]
      rw [ei]
      refine ⟨rfl, ?_, ?_, rfl, rfl, rfl, rfl, rfl⟩
      · simp [fillS, Stm.toks, Stm.word, Stm.flats, tokD, bb]
      · simp [fillS, wl, ha, hb]
  · match ws, hl with
    | [a, b], _ =>
      obtain ⟨ea, ha⟩ := item107 (nn (itemOf a 107) (by simp [itemsV, Stm.sg, Stm.signs, Stm.flats]))
      obtain ⟨eb, hb⟩ := item107 (nn (itemOf b 107) (by simp [itemsV, Stm.sg, Stm.signs, Stm.flats]))
      have ei : itemsV (.same "" "" [] []) [a, b] = [.str a, .str b] := by simp [itemsV, Stm.sg, Stm.signs, Stm.flats, ea, eb]
      rw [ei]
      refine ⟨rfl, ?_, ?_, rfl, rfl, rfl, rfl, rfl⟩
      · simp [fillS, Stm.toks, Stm.word, Stm.flats, tokD]
      · simp [fillS, wl, ha, hb]
  · match ws, hl with
    | [a], _ =>
      obtain ⟨na, ea, ba, ha⟩ := item116 (nn (itemOf a 116) (by simp [itemsV, Stm.sg, Stm.signs, Stm.flats]))
      have ei : itemsV (.rep 0 []) [a] = [.int na] := by simp [itemsV, Stm.sg, Stm.signs, Stm.flats, ea]
      rw [ei]
      refine ⟨rfl, ?_, ?_, rfl, rfl, rfl, rfl, rfl⟩
      · simp [fillS, Stm.toks, Stm.word, Stm.flats, tokD, ba]
      · simp [fillS, wl, ha]
  · match ws, hl with
    | [], _ =>
      have ei : itemsV (.stop) [] = [] := by simp [itemsV, Stm.sg, Stm.signs, Stm.flats]
      rw [ei]
      refine ⟨rfl, ?_, ?_, rfl, rfl, rfl, rfl, rfl⟩
      · simp [fillS, Stm.toks, Stm.word, Stm.flats, tokD]
      · simp [fillS, wl]
end RM

set_option Elab.async false
set_option linter.all false
set_option maxRecDepth 100000
set_option maxHeartbeats 2000000
namespace RM
open PySem PySem.Spec PyProof.Rows L2
/-! ### the body that begins at a line -/
def Stm.put : Stm → List (List Stm) → Stm
  | .ite v n _ _, [a, b] => .ite v n a b
  | .same v u _ _, [a, b] => .same v u a b
  | .rep n _, [a] => .rep n a
  | s, _ => s
def inB (i : Nat) (z : Str) : Bool := decide (cutS z none (some (i : Int)) = spc i) && decide (z ≠ elseL i)
def partsW (rec : Nat → List Str → Option (List Stm) × List Str) (i : Nat) (s : Stm) (r : List Str) : Option Stm × List Str :=
  match s.bodies.length with
  | 0 => (some s, r)
  | 1 => match rec (i + 2) r with
    | (none, e) => (none, e)
    | (some a, e) => (some (s.put [a]), e)
  | _ => match rec (i + 2) r with
    | (none, e) => (none, e)
    | (some _, []) => (none, [])
    | (some a, z :: e) => if z = elseL i then (match rec (i + 2) e with
      | (none, e2) => (none, e2)
      | (some b, e2) => (some (s.put [a, b]), e2)) else (none, z :: e)
def bodyR : Nat → Nat → List Str → Option (List Stm) × List Str
  | 0, _, ls => (none, ls)
  | _ + 1, _, [] => (some [], [])
  | f + 1, i, z :: r => if inB i z = true then (match headS i z with
      | none => (none, z :: r)
      | some s => match partsW (bodyR f) i s r with
        | (none, e) => (none, e)
        | (some s2, r2) => match bodyR f i r2 with
          | (none, e) => (none, e)
          | (some b, e) => (some (s2 :: b), e)) else (some [], z :: r)
theorem parts_len {rec : Nat → List Str → Option (List Stm) × List Str} (h : ∀ i ls, (rec i ls).2.length ≤ ls.length) (i : Nat) (s : Stm) (r : List Str) : (partsW rec i s r).2.length ≤ r.length := by
  unfold partsW
  split
  · exact Nat.le_refl _
  · have h1 := h (i + 2) r
    split <;> (rename_i e; rw [e] at h1; exact h1)
  · have h1 := h (i + 2) r
    split
    · rename_i e; rw [e] at h1; exact h1
    · exact Nat.zero_le _
    · rename_i a z e q
      rw [q] at h1
      split
      · have h2 := h (i + 2) e
        rw [List.length_cons] at h1
        split <;> (rename_i q2; rw [q2] at h2; dsimp only at h2 ⊢; omega)
      · exact h1
theorem body_len : ∀ (f i : Nat) (ls : List Str), (bodyR f i ls).2.length ≤ ls.length
  | 0, _, _ => Nat.le_refl _
  | _ + 1, _, [] => Nat.le_refl _
  | f + 1, i, z :: r => by
    unfold bodyR
    split
    · split
      · exact Nat.le_refl _
      · rename_i s _
        have h1 := parts_len (body_len f) i s r
        split
        · rename_i e q; rw [q] at h1; rw [List.length_cons]; dsimp only at h1 ⊢; omega
        · rename_i s2 r2 q
          rw [q] at h1
          have h2 := body_len f i r2
          split <;> (rename_i q2; rw [q2] at h2; rw [List.length_cons]; dsimp only at h1 h2 ⊢; omega)
    · exact Nat.le_refl _
theorem parts_congr {r1 r2 : Nat → List Str → Option (List Stm) × List Str} {i : Nat} {s : Stm} {r : List Str} (h : ∀ j ls, ls.length ≤ r.length → r1 j ls = r2 j ls) (hl : ∀ i ls, (r2 i ls).2.length ≤ ls.length) : partsW r1 i s r = partsW r2 i s r := by
  unfold partsW
  rw [h _ _ (Nat.le_refl _)]
  split
  · rfl
  · rfl
  · have h1 := hl (i + 2) r
    split
    · rfl
    · rfl
    · rename_i a z e q
      rw [q, List.length_cons] at h1
      rw [h (i + 2) e (by omega)]
theorem body_fuel : ∀ (f g i : Nat) (ls : List Str), ls.length < f → ls.length < g → bodyR f i ls = bodyR g i ls
  | 0, _, _, _, h, _ => absurd h (Nat.not_lt_zero _)
  | _ + 1, 0, _, _, _, h => absurd h (Nat.not_lt_zero _)
  | _ + 1, _ + 1, _, [], _, _ => rfl
  | f + 1, g + 1, i, z :: r, hf, hg => by
    rw [List.length_cons] at hf hg
    have e : ∀ s, partsW (bodyR f) i s r = partsW (bodyR g) i s r := fun s => parts_congr (fun j ls h => body_fuel f g j ls (by omega) (by omega)) (body_len g)
    unfold bodyR
    split
    · split
      · rfl
      · rename_i s _
        rw [e s]
        have h1 := parts_len (body_len g) i s r
        split
        · rfl
        · rename_i s2 r2 q
          rw [q] at h1
          dsimp only at h1
          rw [body_fuel f g i r2 (by omega) (by omega)]
    · rfl
def BR (i : Nat) (ls : List Str) : Option (List Stm) × List Str := bodyR (ls.length + 1) i ls
theorem BR_len (i : Nat) (ls : List Str) : (BR i ls).2.length ≤ ls.length := body_len _ _ _
theorem BR_nil (i : Nat) : BR i [] = (some [], []) := rfl
theorem BR_out {i : Nat} {z : Str} {r : List Str} (h : inB i z = false) : BR i (z :: r) = (some [], z :: r) := by
  unfold BR
  rw [List.length_cons, bodyR, h, if_neg Bool.false_ne_true]
theorem BR_bad {i : Nat} {z : Str} {r : List Str} (h : inB i z = true) (hs : headS i z = none) : BR i (z :: r) = (none, z :: r) := by
  unfold BR
  rw [List.length_cons, bodyR, h, if_pos rfl, hs]
theorem body_succ (f i : Nat) (z : Str) (r : List Str) : bodyR (f + 1) i (z :: r) = if inB i z = true then (match headS i z with
      | none => (none, z :: r)
      | some s => match partsW (bodyR f) i s r with
        | (none, e) => (none, e)
        | (some s2, r2) => match bodyR f i r2 with
          | (none, e) => (none, e)
          | (some b, e) => (some (s2 :: b), e)) else (some [], z :: r) := by rw [bodyR]
theorem BR_in {i : Nat} {z : Str} {r : List Str} {s : Stm} (h : inB i z = true) (hs : headS i z = some s) : BR i (z :: r) = (match partsW BR i s r with
    | (none, e) => (none, e)
    | (some s2, r2) => match BR i r2 with
      | (none, e) => (none, e)
      | (some b, e) => (some (s2 :: b), e)) := by
  have e : partsW (bodyR (r.length + 1)) i s r = partsW BR i s r := parts_congr (fun j ls hl => body_fuel _ _ _ _ (by omega) (by omega)) BR_len
  have h1 := parts_len BR_len i s r
  have h0 : BR i (z :: r) = bodyR (r.length + 1 + 1) i (z :: r) := rfl
  rw [h0, body_succ, h, if_pos rfl, hs]
  dsimp only
  rw [e]
  cases q : partsW BR i s r with
  | mk o r2 =>
    cases o with
    | none => rfl
    | some s2 =>
      rw [q] at h1
      dsimp only at h1 ⊢
      rw [show bodyR (r.length + 1) i r2 = BR i r2 from body_fuel _ _ _ _ (by omega) (by omega)]
/-! ### back: the lines are those of what was read -/
theorem put_toks {s : Stm} {bs : List (List Stm)} : (s.put bs).toks = s.toks := by
  cases s <;> (unfold Stm.put; split <;> first | rfl | (rename_i h; cases h <;> rfl))
theorem put_bodies {s : Stm} {bs : List (List Stm)} (h : bs.length = s.bodies.length) : (s.put bs).bodies = bs := by
  cases s <;> simp only [Stm.bodies, List.length_cons, List.length_nil] at h
  case ite v n a b => match bs, h with | [x, y], _ => rfl
  case same v n a b => match bs, h with | [x, y], _ => rfl
  case rep n a => match bs, h with | [x], _ => rfl
  all_goals (match bs, h with | [], _ => rfl)
theorem put_ok {s : Stm} {bs : List (List Stm)} (h : bs.length = s.bodies.length) (hw : wl s = true) (hb : ∀ b ∈ bs, wB b = true) : wS (s.put bs) = true := by
  cases s <;> simp only [Stm.bodies, List.length_cons, List.length_nil] at h
  case ite v n a b => match bs, h with | [x, y], _ => (simp only [wl] at hw; simp only [Stm.put, wS, hw, hb x (by simp), hb y (by simp), Bool.and_self])
  case same v n a b => match bs, h with | [x, y], _ => (simp only [wl] at hw; simp only [Stm.put, wS, hw, hb x (by simp), hb y (by simp), Bool.and_self])
  case rep n a => match bs, h with | [x], _ => (simp only [wl] at hw; simp only [Stm.put, wS, hw, hb x (by simp), Bool.and_self])
  all_goals (match bs, h with | [], _ => (simp only [wl] at hw; simp only [Stm.put, wS, hw]))
theorem head_line' {i : Nat} {z : Str} {s : Stm} (h : headS i z = some s) : z = line i s.toks ∧ wl s = true ∧ s.bodies = s.bodies.map (fun _ => []) := by
  unfold headS at h
  split at h
  case isFalse => cases h
  rename_i hp
  cases hw : Txt.split (cutS z (some (i : Int)) none) " " with
  | nil => exact absurd hw (split_ne _)
  | cons w ws =>
    rw [hw] at h
    obtain ⟨t, _, _, h2, h3, _, h5, _⟩ := head_words h
    refine ⟨?_, h3, h5⟩
    unfold line
    rw [h2, ← hw, show Txt.join " " (Txt.split (cutS z (some (i : Int)) none) " ") = cutS z (some (i : Int)) none from by rw [TL.join_eq]; exact PySem.StrLaws.join_split _ " "]
    refine str_ext ?_
    have e1 := cut_pre z i
    have e2 := cut_suf z i
    rw [hp] at e1
    show cl z = cl (spc i ++ cutS z (some (i : Int)) none)
    rw [cl_app, e1, e2, List.take_append_drop]
theorem parts_back {rec : Nat → List Str → Option (List Stm) × List Str} (h : ∀ i ls l e, rec i ls = (some l, e) → ls = lnB i l ++ e ∧ wB l = true) {i : Nat} {s s2 : Stm} {r r2 : List Str} (hw : wl s = true) (q : partsW rec i s r = (some s2, r2)) :
    s2.toks = s.toks ∧ wS s2 = true ∧ r = lnR i s2.bodies ++ r2 := by
  unfold partsW at q
  split at q
  · rename_i hb
    cases q
    have b0 : s.bodies = [] := List.length_eq_zero_iff.mp hb
    refine ⟨rfl, ?_, by rw [b0]; rfl⟩
    have := put_ok (s := s) (bs := []) hb.symm hw (by simp)
    have e : s.put [] = s := by cases s <;> rfl
    rwa [e] at this
  · rename_i hb
    split at q
    · cases q
    · rename_i a e qa
      cases q
      obtain ⟨h1, h2⟩ := h _ _ _ _ qa
      refine ⟨put_toks, put_ok (by rw [hb]; rfl) hw (by simpa using h2), ?_⟩
      rw [put_bodies (by rw [hb]; rfl), lnR]
      exact h1
  · rename_i n0 n1
    have hb : s.bodies.length = 2 := by
      rcases bodies_cases s with e | ⟨_, e⟩ | ⟨_, _, e⟩
      · rw [e] at n0; exact absurd rfl n0
      · rw [e] at n1; exact absurd rfl n1
      · rw [e]; rfl
    split at q
    · cases q
    · cases q
    · rename_i a z e qa
      split at q
      · rename_i ez
        split at q
        · cases q
        · rename_i b e2 qb
          cases q
          obtain ⟨h1, h2⟩ := h _ _ _ _ qa
          obtain ⟨h3, h4⟩ := h _ _ _ _ qb
          refine ⟨put_toks, put_ok (by rw [hb]; rfl) hw (by simp [h2, h4]), ?_⟩
          rw [put_bodies (by rw [hb]; rfl), lnR, h1, ez, h3]
          simp
      · cases q
theorem body_back : ∀ (f i : Nat) (ls : List Str) (l : List Stm) (e : List Str), bodyR f i ls = (some l, e) → ls = lnB i l ++ e ∧ wB l = true
  | 0, _, _, _, _, h => by cases h
  | _ + 1, _, [], _, _, h => by cases h; exact ⟨rfl, rfl⟩
  | f + 1, i, z :: r, l, e, h => by
    unfold bodyR at h
    split at h
    · split at h
      · cases h
      · rename_i s hs
        obtain ⟨h1, h2, _⟩ := head_line' hs
        split at h
        · cases h
        · rename_i s2 r2 q
          obtain ⟨p1, p2, p3⟩ := parts_back (body_back f) h2 q
          split at h
          · cases h
          · rename_i b e2 q2
            cases h
            obtain ⟨b1, b2⟩ := body_back f _ _ _ _ q2
            refine ⟨?_, by rw [wB, p2, b2]; rfl⟩
            rw [lnB, lnS_eq, p1, h1, p3, b1]
            simp
    · cases h
      exact ⟨rfl, rfl⟩
theorem BR_back {i : Nat} {ls e : List Str} {l : List Stm} (h : BR i ls = (some l, e)) : ls = lnB i l ++ e ∧ wB l = true := body_back _ _ _ _ _ h
mutual
theorem lnS_deep (i : Nat) : ∀ s : Stm, dS s ≤ (lnS i s).length
  | .ite v n a b => by
    have h1 := lnB_deep (i + 2) a
    have h2 := lnB_deep (i + 2) b
    simp only [dS, lnS, List.length_cons, List.length_append]
    omega
  | .same v n a b => by
    have h1 := lnB_deep (i + 2) a
    have h2 := lnB_deep (i + 2) b
    simp only [dS, lnS, List.length_cons, List.length_append]
    omega
  | .rep n a => by
    have h1 := lnB_deep (i + 2) a
    simp only [dS, lnS, List.length_cons]
    omega
  | .read .. => Nat.zero_le _
  | .set .. => Nat.zero_le _
  | .copy .. => Nat.zero_le _
  | .print .. => Nat.zero_le _
  | .say .. => Nat.zero_le _
  | .wait => Nat.zero_le _
  | .stop => Nat.zero_le _
theorem lnB_deep (i : Nat) : ∀ l : List Stm, dB l ≤ (lnB i l).length + 1
  | [] => by simp [dB]
  | s :: r => by
    have h1 := lnS_deep i s
    have h2 := lnB_deep i r
    have h3 := lnS_pos i s
    simp only [dB, lnB, List.length_append]
    omega
theorem lnS_pos (i : Nat) (s : Stm) : 1 ≤ (lnS i s).length := by rw [lnS_eq]; simp
end
mutual
theorem lnS_count (i : Nat) : ∀ s : Stm, cS s ≤ (lnS i s).length
  | .ite v n a b => by
    have h1 := lnB_count (i + 2) a
    have h2 := lnB_count (i + 2) b
    simp only [cS, lnS, List.length_cons, List.length_append]
    omega
  | .same v n a b => by
    have h1 := lnB_count (i + 2) a
    have h2 := lnB_count (i + 2) b
    simp only [cS, lnS, List.length_cons, List.length_append]
    omega
  | .rep n a => by
    have h1 := lnB_count (i + 2) a
    simp only [cS, lnS, List.length_cons]
    omega
  | .read .. => Nat.le_refl _
  | .set .. => Nat.le_refl _
  | .copy .. => Nat.le_refl _
  | .print .. => Nat.le_refl _
  | .say .. => Nat.le_refl _
  | .wait => Nat.le_refl _
  | .stop => Nat.le_refl _
theorem lnB_count (i : Nat) : ∀ l : List Stm, cB l ≤ (lnB i l).length
  | [] => Nat.le_refl _
  | s :: r => by
    have h1 := lnS_count i s
    have h2 := lnB_count i r
    simp only [cB, lnB, List.length_append]
    omega
end
end RM

set_option Elab.async false
set_option linter.all false
set_option maxRecDepth 100000
set_option maxHeartbeats 2000000
set_option pp.maxSteps 400
set_option pp.deepTerms false
namespace RM
open PySem PySem.Spec PyProof.Rows L2
theorem fform_sg (s : Stm) : cl (fform s) = s.sg := by
  cases s <;> simp only [fform, Stm.sg, Stm.form, Stm.signs, Stm.flats, List.length_cons, List.length_nil] <;> decide +kernel
theorem sg_len (s : Stm) : s.sg.length = s.flats.length := by cases s <;> rfl
theorem itemsV_len {t : Stm} {ws : List Str} (h : ws.length = t.flats.length) : (itemsV t ws).length = ws.length := by
  unfold itemsV
  rw [List.length_zipWith, sg_len, h, Nat.min_self]
theorem non_any (xs : List V) : inV .non xs = xs.any fun v => decide (v = V.non) := by
  unfold inV
  induction xs with
  | nil => rfl
  | cons v r ih => rw [List.any_cons, List.any_cons, ih]; congr 1; cases v <;> rfl
theorem itemOf_flat (z : Str) (c : Nat) : flatV (itemOf z c) = true := by
  unfold itemOf
  split
  · split <;> rfl
  · split
    · rfl
    · split <;> rfl
section
variable {P : Program} {w : World} {K : PySem.W.Frag} {mg : Str → Option Value} {base : Heap}
theorem no_form (T : Top w K mg) {z : Str} (h : temp z = none) : PySem.W.nsIn K (He.ga K "FORMS") z = some none := keysB_no (keys_FORMS T) (temp_none h)
theorem forms_at (T : Top w K mg) : ∃ es m, KDict K w (He.ga K "FORMS") es m := t_FORMS T
def spPlainG (K : PySem.W.Frag) : Sp := fun vs H Q _ => match vs with
  | [x, i] => ∃ (z : Str) (ind : Nat), x = .str z ∧ z.length ≤ 900 ∧ i = .int ind ∧ ind ≤ 1000 ∧ (headS ind z = none → ∀ H', Same H H' → Q .non H') ∧ (∀ s, headS ind z = some s → ∀ a H', Same H H' → SqT K H' a (.str s.word :: s.flats.map vD) → Q (.ref a) H')
  | _ => False
theorem sc_plain_statement : FnScope ["line", "indent", "words", "form", "items", "word", "sign"] ["line", "indent"] (defScope s_plain_statement) := ⟨rfl, rfl, rfl, by decide +kernel, rfl, by decide +kernel, by decide +kernel⟩
theorem c_plain_statement (T : Top w K mg) : Cal P w K mg base CX0 3 "plain_statement" (spPlainG K) := by
  refine cal_0 (f_plain_statement T) (g_plain_statement T) sc_plain_statement (fun _ _ _ _ _ _ us hl => match us, hl with | [_, _], _ => rfl) (fun vs H Q E h => match vs, h with | [_, _], _ => rfl) (fun cdv A outer s H vs Q E hr h => ?_)
  match vs, h with
  | [x, i], h =>
  obtain ⟨z, ind, rfl, hz, rfl, hi, qN, q⟩ := h
  obtain ⟨es, m, D⟩ := forms_at T
  have hzs : z.length ≤ sizeLine := Nat.le_of_lt (small1000 (Nat.le_trans hz (by decide)))
  unfold headS at qN q
  refine ⟨_, (pss_cons (ps_if (pt_cmpR op_ne (pe_slice sl_str (pv 0) po_none (po_some (pv 1))) (pe_op op_spc pe_str (pv 1)) (nomark _))
      (pss_one (ps_ret pe_non))
      pss_nil)
    (pss_cons (ps_set (i := 2) sc_plain_statement.nd rfl (Or.inl rfl) (pe_split (pe_slice sl_str (pv 0) (po_some (pv 1)) po_none) pe_str))
    (pss_cons (ps_if (pt_cmpR (op_notIn_kd D) (pe_ix ix_list (pv 2) pe_int (fun _ _ => rfl)) (pglR (g_FORMS T)) rfl)
      (pss_one (ps_ret pe_non))
      pss_nil)
    (pss_cons (ps_set (i := 3) sc_plain_statement.nd rfl (Or.inl rfl) (pe_repl (pek_ix ix_kdict (pglR (g_FORMS T)) (pek_ix ix_list (pv 2) pek_int (fun _ _ => rfl)) (fun _ _ => rfl))))
    (pss_cons (ps_if (pt_cmpR op_ne (pcb (z_len T) call_len_seq boot_len (pa_cons (pv 2) pa_nil)) (pe_op op_add (pcb (z_len T) call_len_str boot_len (pa_cons (pv 3) pa_nil)) pe_int) (nomark _))
      (pss_one (ps_ret pe_non))
      pss_nil)
    (pss_cons (ps_setLc (i := 4) (own := [("word", 5), ("sign", 6)]) rfl sc_plain_statement.nd rfl rfl (sw_true rfl rfl rfl (by decide +kernel)) (pi_zipLS (by rfl) (z_zip T) (pa_cons (pe_slice sl_list (pv 2) (po_some pe_int) po_none) (pa_cons (pv 3) pa_nil))) (blkOk_by (own := [("word", 5), ("sign", 6)]) (N := ["line", "indent", "words", "form", "items", "word", "sign"]) (sc := defScope s_plain_statement) (by decide +kernel)) (fun _ _ _ _ _ => (pg_tup' (n := 2) (K := K) rfl rfl (pgs_cons (pg_name (i := 5) sc_plain_statement.nd rfl (Or.inl rfl) (Or.inr rfl)) (pgs_cons (pg_name (i := 6) sc_plain_statement.nd rfl (Or.inl rfl) (Or.inr rfl)) pgs_nil)) rfl rfl)) (fun _ _ _ _ _ => pts_nil) (fun _ _ _ _ _ => (pc (c_item_of T) hr (pa_cons (pv 5) (pa_cons (pv 6) pa_nil)))))
    (pss_cons (ps_if (pt_cmpR op_in_seq pe_non (pv 4) rfl)
      (pss_one (ps_ret pe_non))
      pss_nil)
    (pss_one (ps_ret (pe_op op_catG (pe_tup (pa_cons (pe_ix ix_list (pv 2) pe_int (fun _ _ => rfl)) pa_nil)) (pct (z_tuple T) call_tuple_of boot_tuple (pa_cons (pv 4) pa_nil)))))))))))), ?_⟩
  -- line[:indent] != ' ' * indent
  refine ⟨_, rfl, _, rfl, _, rfl, _, rfl, hzs, _, rfl, ind, rfl, rfl, hi, rfl, _, rfl, ?_⟩
  by_cases hp : cutS z none (some (ind : Int)) = spc ind
  case neg =>
    rw [if_neg hp] at qN
    refine ifT (by
      show (!decide (V.str (cutS z none (some (ind : Int))) = V.str (spc ind))) = true
      rw [decide_eq_false fun e => hp (V.str.inj e)]
      rfl) ?_
    exact qN rfl H (Same.refl _)
  rw [if_pos hp] at qN q
  refine ifF (by
    show (!decide (V.str (cutS z none (some (ind : Int))) = V.str (spc ind))) = false
    rw [decide_eq_true (congrArg V.str hp)]
    rfl) ?_
  -- words
  obtain ⟨y, ey⟩ : ∃ y, y = cutS z (some (ind : Int)) none := ⟨_, rfl⟩
  have ly : y.length ≤ 900 := by
    have := cut_suf z ind
    rw [← ey] at this
    have e := congrArg List.length this
    rw [cl_len, List.length_drop, cl_len] at e
    omega
  refine ⟨_, rfl, _, rfl, _, rfl, _, rfl, hzs, ⟨_, rfl⟩, _, _, rfl, rfl, by decide +kernel, Nat.le_of_lt (small1000 (by rw [← ey]; omega)), fun p1 np1 => ?_⟩
  rw [← ey] at qN q ⊢
  have wlen : ∀ v ∈ Txt.split y " ", v.length ≤ 1000 := fun v hv => Nat.le_trans (split_part hv).1 (by omega)
  have wcnt : (Txt.split y " ").length ≤ 902 := by have := PyProof.Rows.split_le y " "; omega
  cases hW : Txt.split y " " with
  | nil => exact absurd hW (split_ne _)
  | cons w0 ws =>
  rw [hW] at qN q wlen wcnt
  have t1 := smNew1 np1 (.lst ((w0 :: ws).map V.str))
  have hw1 : SqL K (upd H p1 (.lst ((w0 :: ws).map V.str))) p1 (.str w0 :: ws.map V.str) := SqL.of upd_same
  generalize upd H p1 (.lst ((w0 :: ws).map V.str)) = H1 at t1 hw1 ⊢
  -- words[0] in FORMS
  cases ht : temp w0 with
  | none =>
    refine ⟨_, rfl, _, _, _, _, rfl, rfl, hw1, at0, _, _, rfl, rfl, no_form T ht, _, rfl, iteT ?_⟩
    exact qN (by show Option.bind (temp w0) _ = none; rw [ht]; rfl) H1 t1
  | some t =>
  have tw := (temp_word ht).1
  obtain ⟨_, _, _, u, hu, ru⟩ := forms T t
  rw [tw] at hu
  refine ⟨_, rfl, _, _, _, _, rfl, rfl, hw1, at0, _, _, rfl, rfl, hu, _, rfl, iteF ?_⟩
  -- form
  have kd := kd_form T t
  rw [tw] at kd
  refine ⟨_, rfl, _, _, _, _, rfl, rfl, hw1, at0, _, _, _, rfl, rfl, kd, ?_⟩
  refine ⟨_, rfl, form_small t, ?_⟩
  -- len(words) = len(form) + 1
  have fl2 := flats_len t
  have hsz : (fform t).length ≤ sizeLine := Nat.le_of_lt (small1000 (by rw [fform_len]; omega))
  refine ⟨_, rfl, _, _, rfl, .inl hw1, _, rfl, _, rfl, hsz, _, _, rfl, rfl, rfl, _, rfl, ?_⟩
  have ln : V.int (((V.str w0 :: ws.map V.str).length : Nat) : Int) = V.int (((fform t).length : Int) + 1) ↔ ws.length = t.flats.length := by
    rw [fform_len, List.length_cons, List.length_map]
    constructor
    · intro e
      injection e with e
      omega
    · intro e
      rw [e]
      rfl
  by_cases hl : ws.length = t.flats.length
  case neg =>
    refine ifT (by
      show (!decide (V.int (((V.str w0 :: ws.map V.str).length : Nat) : Int) = V.int (((fform t).length : Int) + 1))) = true
      rw [decide_eq_false fun e => hl (ln.mp e)]
      rfl) ?_
    exact qN (by show Option.bind (temp w0) _ = none; rw [ht]; exact if_neg hl) H1 t1
  refine ifF (by
    show (!decide (V.int (((V.str w0 :: ws.map V.str).length : Nat) : Int) = V.int (((fform t).length : Int) + 1))) = false
    rw [decide_eq_true (ln.mpr hl)]
    rfl) ?_
  -- items
  refine ⟨_, rfl, _, rfl, _, _, rfl, hw1, fun p2 np2 => ?_⟩
  rw [cut_tail]
  have t2 := smNew1 np2 (.lst (ws.map V.str))
  refine ⟨_, rfl, p2, _, fform t, rfl, SqL.of upd_same, fun D2 nD => ?_⟩
  have hll : (ws.map V.str).length = (fform t).cps.size := by
    rw [List.length_map, hl]
    exact (fform_len t).symm
  refine lc_opt (walk_zipLS hll) (fun (d : V) y _ => y = d) (fun i => (itemsV t ws)[i]?) nD (small1000 (by rw [List.length_map]; omega)) (fun H' e => e.seq (SqL.of upd_same)) (fun _ _ _ _ h _ => h) (fun _ _ _ _ _ h _ => h) ?_ ?_
  · rintro j x H3 H4 N hj e ⟨tt, y, zc, rfl, htt, rfl, hy, hz2⟩ hk _
    obtain ⟨c, hc, rfl⟩ := Option.map_eq_some_iff.mp hz2
    refine ⟨tt, _, rfl, SqT.of upd_same, rfl, _, _, rfl, _, _, rfl, rfl, rfl, ?_⟩
    have hy : (ws.map V.str)[j]? = some y := hy
    rw [List.getElem?_map] at hy
    obtain ⟨d, hd, rfl⟩ := Option.map_eq_some_iff.mp hy
    have hc2 : (cl (fform t))[j]? = some c := by simpa using hc
    rw [fform_sg] at hc2
    refine yesI ⟨_, rfl, _, rfl, d, c, rfl, wlen d (List.mem_cons_of_mem _ (List.mem_of_getElem? hd)), rfl, hk _ _ (itemOf d c) ?_ (smNew1 htt _) rfl⟩
    unfold itemsV
    rw [List.getElem?_zipWith, hd, hc2]
  · intro H3 ys e hD hp'
    rw [show (ws.map V.str).length = (itemsV t ws).length by rw [List.length_map, itemsV_len hl], some_range] at hp'
    have hys : ys = itemsV t ws := by
      have : ∀ {a b : List V}, Paired (fun y d => y = d) a b → a = b := by
        intro a b h
        induction h with
        | nil => rfl
        | cons h _ ih => rw [h, ih]
      exact this hp'
    subst hys
    have t3 : Same H1 H3 := fun b o z => e _ _ (t2 b o z)
    have flat : (itemsV t ws).all flatV = true := by
      rw [List.all_eq_true]
      intro v hv
      unfold itemsV at hv
      obtain ⟨k, hk⟩ := List.getElem?_of_mem hv
      rw [List.getElem?_zipWith] at hk
      split at hk
      · cases hk; exact itemOf_flat _ _
      · cases hk
    refine ⟨_, rfl, D2, _, rfl, .inl (SqL.of hD), rfl, flat, _, rfl, ?_⟩
    have eAny := non_any (itemsV t ws)
    cases hn : (itemsV t ws).any fun v => decide (v = V.non) with
    | true =>
      refine ifT (by rw [eAny, hn]; rfl) ?_
      exact qN (by show Option.bind (temp w0) _ = none; rw [ht]; show (if _ then _ else _) = _; rw [if_pos hl, if_pos hn]) H3 (t1.trans t3)
    | false =>
      refine ifF (by rw [eAny, hn]; rfl) ?_
      have hs : headW (w0 :: ws) = some (fillS t (itemsV t ws)) := by show Option.bind (temp w0) _ = _; rw [ht]; show (if _ then _ else _) = _; rw [if_pos hl, hn, if_neg Bool.false_ne_true]
      obtain ⟨t', ht', hsw, _, _, hfl, _⟩ := head_words hs
      rw [ht] at ht'
      cases ht'
      refine ⟨_, rfl, _, _, _, _, rfl, rfl, t3.seq hw1, at0, (by show 1 ≤ sizeLine; decide), fun p3 np3 => ?_⟩
      have t4 := smNew1 np3 (.tup [.str w0])
      refine ⟨_, rfl, D2, _, rfl, .inl ⟨SqL.of (t4 _ _ hD), fun p4 np4 => ?_⟩⟩
      have t5 := smNew1 np4 (.tup (itemsV t ws))
      refine catA_of (smT t5 (SqT.of upd_same)) (SqT.of upd_same) (Nat.le_of_lt (small1000 (by rw [itemsV_len hl]; show 1 + _ ≤ 1000; omega))) fun tt H5 s6 htt => ?_
      exact q _ hs tt H5 (t1.trans (t3.trans (t4.trans (t5.trans s6)))) (by rw [hsw, hfl]; exact htt)
end
end RM

set_option Elab.async false
set_option linter.all false
set_option maxRecDepth 100000
set_option maxHeartbeats 4000000
set_option pp.maxSteps 600
set_option pp.deepTerms false
namespace RM
open PySem PySem.Spec PyProof.Rows L2
theorem drop_head {α : Type} {L : List α} {z : α} {r : List α} {a : Nat} (h : L.drop a = z :: r) : L[a]? = some z := by
  rw [← List.head?_drop, h]
  rfl
theorem drop_next {α : Type} {L : List α} {z : α} {r : List α} {a : Nat} (h : L.drop a = z :: r) : L.drop (a + 1) = r := by
  rw [← List.drop_drop, h]
  rfl
theorem drop_end {α : Type} {L xs e : List α} {a : Nat} (h : L.drop a = xs ++ e) (ha : a ≤ L.length) : L.drop (L.length - e.length) = e ∧ a ≤ L.length - e.length ∧ e.length ≤ L.length := by
  have l := congrArg List.length h
  rw [List.length_drop, List.length_append] at l
  have e1 : L.length - e.length = a + xs.length := by omega
  refine ⟨?_, by omega, by omega⟩
  rw [e1, ← List.drop_drop, h, List.drop_left]
theorem count_b (s : Stm) : Txt.count s.form "b" = s.bodies.length := by cases s <;> simp only [Stm.form, Stm.bodies, List.length_cons, List.length_nil] <;> decide +kernel
theorem flats_dp {H : Hp} {K : PySem.W.Frag} {s : Stm} : DpAll K H (s.flats.map vD) s.flats := by
  have g : ∀ l : List PyData, (∀ d ∈ l, (∃ z, d = .str z) ∨ ∃ n, d = .int n) → DpAll K H (l.map vD) l := by
    intro l
    induction l with
    | nil => intro _; exact .nil
    | cons d r ih =>
      intro h
      rcases h d List.mem_cons_self with ⟨z, rfl⟩ | ⟨n, rfl⟩
      · exact .cons (.str z) (ih fun d hd => h d (List.mem_cons_of_mem _ hd))
      · exact .cons (.int n) (ih fun d hd => h d (List.mem_cons_of_mem _ hd))
  exact g _ (flats_flat s)
theorem put_word {s : Stm} {bs : List (List Stm)} : (s.put bs).word = s.word := by
  cases s <;> (unfold Stm.put; split <;> first | rfl | (rename_i h; cases h <;> rfl))
theorem put_flats {s : Stm} {bs : List (List Stm)} : (s.put bs).flats = s.flats := by
  cases s <;> (unfold Stm.put; split <;> first | rfl | (rename_i h; cases h <;> rfl))
/-- what was read ahead, and the rest -/
def glueB (done : List Stm) : Option (List Stm) × List Str → Option (List Stm) × List Str
  | (none, e) => (none, e)
  | (some b, e) => (some (done ++ b), e)
theorem glueB_next {done : List Stm} {s : Stm} {x : Option (List Stm) × List Str} : glueB done (match x with | (none, e) => (none, e) | (some b, e) => (some (s :: b), e)) = glueB (done ++ [s]) x := by
  obtain ⟨o, e⟩ := x
  cases o with
  | none => rfl
  | some b => simp [glueB]
section
variable {rec : Nat → List Str → Option (List Stm) × List Str} {i : Nat} {s : Stm} {r e e2 : List Str} {a b : List Stm} {z : Str}
theorem parts0 (h : s.bodies.length = 0) : partsW rec i s r = (some s, r) := by unfold partsW; rw [h]; rfl
theorem parts1 (h : s.bodies.length = 1) (q : rec (i + 2) r = (some a, e)) : partsW rec i s r = (some (s.put [a]), e) := by unfold partsW; rw [h, q]; rfl
theorem bodies_one_two (h : 1 ≤ s.bodies.length) : s.bodies.length = 1 ∨ s.bodies.length = 2 := by
  rcases bodies_cases s with e | ⟨_, e⟩ | ⟨_, _, e⟩ <;> rw [e] at h ⊢
  · exact absurd h (by decide)
  · exact .inl rfl
  · exact .inr rfl
theorem partsE (h : 1 ≤ s.bodies.length) (q : rec (i + 2) r = (none, e)) : partsW rec i s r = (none, e) := by
  unfold partsW
  rcases bodies_one_two h with h | h <;> (rw [h, q]; rfl)
theorem parts2n (h : s.bodies.length = 2) (q : rec (i + 2) r = (some a, [])) : partsW rec i s r = (none, []) := by unfold partsW; rw [h, q]; rfl
theorem parts2x (h : s.bodies.length = 2) (q : rec (i + 2) r = (some a, z :: e)) (n : z ≠ elseL i) : partsW rec i s r = (none, z :: e) := by
  unfold partsW
  rw [h, q]
  exact if_neg n
theorem parts2e (h : s.bodies.length = 2) (q : rec (i + 2) r = (some a, elseL i :: e)) (q2 : rec (i + 2) e = (none, e2)) : partsW rec i s r = (none, e2) := by
  unfold partsW
  rw [h, q]
  dsimp only
  rw [if_pos rfl, q2]
  rfl
theorem parts2 (h : s.bodies.length = 2) (q : rec (i + 2) r = (some a, elseL i :: e)) (q2 : rec (i + 2) e = (some b, e2)) : partsW rec i s r = (some (s.put [a, b]), e2) := by
  unfold partsW
  rw [h, q]
  dsimp only
  rw [if_pos rfl, q2]
  rfl
end
theorem inB_false {i : Nat} {z : Str} (h : inB i z = false) : cutS z none (some (i : Int)) ≠ spc i ∨ z = elseL i := by
  unfold inB at h
  by_cases c : cutS z none (some (i : Int)) = spc i
  · rw [decide_eq_true c, Bool.true_and] at h
    exact .inr (by simpa using h)
  · exact .inl c
theorem inB_true {i : Nat} {z : Str} (h : inB i z = true) : cutS z none (some (i : Int)) = spc i ∧ z ≠ elseL i := by
  unfold inB at h
  rw [Bool.and_eq_true] at h
  exact ⟨of_decide_eq_true h.1, of_decide_eq_true h.2⟩
section
variable {P : Program} {w : World} {K : PySem.W.Frag} {mg : Str → Option Value} {base : Heap}
theorem sc_BadText_init : FnScope ["self", "line"] ["self", "line"] (defScope s_BadText_init) := ⟨rfl, rfl, rfl, by decide +kernel, rfl, by decide +kernel, by decide +kernel⟩
theorem c_BadText_init (T : Top w K mg) : Exo P w K mg base 1 "BadText" (He.ga K "BadText") (spExo (He.ga K "BadText") "line") := by
  refine exo_0 (f_BadText_init T) (oexB_ok (oex_BadText T)) (me_BadText_init T) (g_BadText T) sc_BadText_init (fun _ _ _ _ _ _ us hl => match us, hl with | [_, _], _ => rfl) (fun vs H Q E h => match vs, h with | [_, _], _ => rfl) (fun cdv A outer s H vs Q E hr h => ?_)
  match vs, h with
  | [x, v], h =>
  obtain ⟨a, rfl, ha, q⟩ := h
  refine ⟨_, (pss_one (ps_ost (pv 0) (pv 1))), ?_⟩
  exact ⟨_, rfl, _, rfl, a, _, rfl, oexB_ok (oex_BadText T), na_BadText_line T, .inl ⟨ha, fun dx h1 h2 => q dx h1 h2⟩⟩
/-! ### body_of -/
def spBodyG (K : PySem.W.Frag) (n : Nat) : Sp := fun vs H Q E => match vs with
  | [x, y, z] => ∃ (la : Addr) (L : List Str) (at_ ind : Nat), x = .ref la ∧ y = .int at_ ∧ z = .int ind ∧ SqL K H la (L.map V.str) ∧ at_ ≤ L.length ∧ (L.drop at_).length < n ∧ ind + 2 * n ≤ 900 ∧ L.length ≤ 900 ∧ (∀ z ∈ L, z.length ≤ 900) ∧
      (∀ l e, BR ind (L.drop at_) = (some l, e) → ∀ t v H', Same H H' → SqT K H' t [v, .int ((L.length - e.length : Nat) : Int)] → Dp K H' v (.tuple (encB false l)) → Q (.ref t) H') ∧
      (∀ e, BR ind (L.drop at_) = (none, e) → ∀ d H', Same H H' → H' d = some (.xd [("line", .int (((L.length - e.length : Nat) : Int) + 1))]) → E (.ref (He.ga K "BadText")) (some d) H')
  | _ => False
theorem sc_body_of : FnScope ["lines", "at", "indent", "found", "one", "many", "inner"] ["lines", "at", "indent"] (defScope s_body_of) := ⟨rfl, rfl, rfl, by decide +kernel, rfl, by decide +kernel, by decide +kernel⟩
theorem ok_body_of (T : Top w K mg) {n : Nat} (ih : Cal P w K mg base (L2.CX P w) (n + 3) "body_of" (spBodyG K n)) : Cal P w K mg base (L2.CX P w) (n + 4) "body_of" (spBodyG K (n + 1)) := by
  refine cal_X (f_body_of T) (g_body_of T) sc_body_of (fun _ _ _ _ _ _ us hl => match us, hl with | [_, _, _], _ => rfl) (fun vs H Q E h => match vs, h with | [_, _, _], _ => rfl) (fun cdv A outer s H vs Q E hr h => ?_)
  match vs, h with
  | [x, y, z], h =>
  obtain ⟨la, L, at_, ind, rfl, rfl, rfl, hL, hat0, hdn, hi, lL, zL, q, qE⟩ := h
  refine ⟨_, (pss_cons (ps_set (i := 3) sc_body_of.nd rfl (Or.inl rfl) (pe_lst pa_nil))
    (pss_cons (ps_while (passes_of rfl) (PW.pt (pw_and (pt_cmpR op_lt (pv 1) (pcb (z_len T) call_len_seq boot_len (pa_cons (pv 0) pa_nil)) (nomark _)) (pw_and (pt_cmpR op_eq (pe_slice sl_str (pe_ix ix_list (pv 0) (pv 1) (fun _ _ => rfl)) po_none (po_some (pv 2))) (pe_op op_spc pe_str (pv 2)) (nomark _)) (pw_and1 (pt_cmpR op_ne (pe_ix ix_list (pv 0) (pv 1) (fun _ _ => rfl)) (pe_op op_add_str (pe_op op_spc pe_str (pv 2)) pe_str) (nomark _))))))
      (pss_cons (ps_set (i := 4) sc_body_of.nd rfl (Or.inl rfl) (pc (c_plain_statement T) hr (pa_cons (pe_ix ix_list (pv 0) (pv 1) (fun _ _ => rfl)) (pa_cons (pv 2) pa_nil))))
    (pss_cons (ps_if (pt_cmp (pc_isN (pv 4)) rfl)
      (pss_one (ps_raiseX (takes_of rfl rfl rfl rfl) (c_BadText_init T) hr (pa_cons (pe_op op_add (pv 1) pe_int) pa_nil)))
      pss_nil)
    (pss_cons (ps_aug (i := 1) sc_body_of.nd rfl (Or.inl rfl) pe_int ip_add)
    (pss_cons (ps_set (i := 5) sc_body_of.nd rfl (Or.inl rfl) (pe_m1 F.slot_str_count F.type_str_count mt_count (pe_ix ix_kdict (pglR (g_FORMS T)) (pe_ix ix_tup (pv 4) pe_int (fun _ _ => rfl)) (fun _ _ => rfl)) pe_str))
    (pss_cons (ps_mid (ps_if (pt_cmpR op_gt (pv 5) pe_int (nomark _))
      (pss_cons (ps_asg (pcX (takes_of rfl rfl rfl rfl) ih hr (pa_cons (pv 0) (pa_cons (pv 1) (pa_cons (pe_op op_add (pv 2) pe_int) pa_nil)))) (pg_tup rfl (pgs_cons (pg_name (i := 6) sc_body_of.nd rfl (Or.inl rfl)) (pgs_cons (pg_name (i := 1) sc_body_of.nd rfl (Or.inl rfl)) pgs_nil))))
    (pss_one (ps_set (i := 4) sc_body_of.nd rfl (Or.inl rfl) (pe_op op_catG (pv 4) (pe_tup (pa_cons (pv 6) pa_nil))))))
      pss_nil))
    (pss_cons (ps_mid (ps_if (pt_cmpR op_gt (pv 5) pe_int (nomark _))
      (pss_cons (ps_if (PW.pt (pw_or (pt_cmpR op_ge (pv 1) (pcb (z_len T) call_len_seq boot_len (pa_cons (pv 0) pa_nil)) (nomark _)) (pw_or1 (pt_cmpR op_ne (pe_ix ix_list (pv 0) (pv 1) (fun _ _ => rfl)) (pe_op op_add_str (pe_op op_spc pe_str (pv 2)) pe_str) (nomark _)))))
      (pss_one (ps_raiseX (takes_of rfl rfl rfl rfl) (c_BadText_init T) hr (pa_cons (pe_op op_add (pv 1) pe_int) pa_nil)))
      pss_nil)
    (pss_cons (ps_asg (pcX (takes_of rfl rfl rfl rfl) ih hr (pa_cons (pv 0) (pa_cons (pe_op op_add (pv 1) pe_int) (pa_cons (pe_op op_add (pv 2) pe_int) pa_nil)))) (pg_tup rfl (pgs_cons (pg_name (i := 6) sc_body_of.nd rfl (Or.inl rfl)) (pgs_cons (pg_name (i := 1) sc_body_of.nd rfl (Or.inl rfl)) pgs_nil))))
    (pss_one (ps_set (i := 4) sc_body_of.nd rfl (Or.inl rfl) (pe_op op_catG (pv 4) (pe_tup (pa_cons (pv 6) pa_nil)))))))
      pss_nil))
    (pss_one (ps_expr (pe_bm PySem.F.plainAttrs_list PySem.F.slot_list_append PySem.F.type_list_append mt_append (pv 3) (pa_cons (pv 4) pa_nil)))))))))))
    (pss_one (ps_ret (pe_tup (pa_cons (pct (z_tuple T) call_tuple_of boot_tuple (pa_cons (pv 3) pa_nil)) (pa_cons (pv 1) pa_nil))))))), ?_⟩
  refine ⟨(by show 0 ≤ sizeLine; decide), fun fd nfd => ?_⟩
  have s0 := smNew1 nfd (.lst [])
  refine ⟨fun m σ H' => ∃ a done, m = L.length - a ∧ at_ ≤ a ∧ a ≤ L.length ∧ BR ind (L.drop at_) = glueB done (BR ind (L.drop a)) ∧ done.length ≤ a ∧ Same H H' ∧ ∃ f acc, H f = none ∧ H' f = some (.lst acc) ∧ DpAll K H' acc (encB false done) ∧ ∃ v4 v5 v6, σ = [some (.ref la), some (.int (a : Int)), some (.int ind), some (.ref f), v4, v5, v6],
    ⟨L.length - at_, at_, [], rfl, Nat.le_refl _, hat0, ?_, Nat.zero_le _, s0, fd, [], nfd, upd_same, .nil, _, _, _, rfl⟩, ?_⟩
  · cases e : BR ind (L.drop at_) with
    | mk o e2 => cases o <;> rfl
  rintro m σ H1 ⟨a, done, rfl, ha0, ha, hB, hdl, s1, f, acc, nf, hf, hacc, v4, v5, v6, rfl⟩
  have hL1 := s1.seq hL
  have e17 : (L.map V.str).length = L.length := List.length_map ..
  have le17 := else_len ind
  have ldr : (L.drop a).length = L.length - a := List.length_drop ..
  rw [List.length_drop] at hdn
  refine ⟨_, rfl, _, rfl, _, _, rfl, .inl hL1, _, _, rfl, rfl, _, rfl, ?_⟩
  -- the body's end
  have fin : ∀ e, BR ind (L.drop a) = (some [], e) → L.length - e.length = a → ∀ H2, Same H1 H2 → ∀ v4 v5 v6, tRet (tTup (tCons (tCB (fun xs H Q => ∃ p ys, xs = [V.ref p] ∧ (SqL K H p ys ∧ (∀ l, H l = none → Q (.ref l) (upd H l (.tup ys))) ∨ SqT K H p ys ∧ Q (.ref p) H)) (tCons (tVar 3) tNil)) (tCons (tVar 1) tNil))) { nx := fun x H' => Q .non H', rt := Q } [some (.ref la), some (.int (a : Int)), some (.int (ind : Int)), some (.ref f), v4, v5, v6] H2 := by
    intro e he hae H2 s2 v4 v5 v6
    have hf2 := s2 _ _ hf
    refine ⟨_, rfl, f, acc, rfl, .inl ⟨SqL.of hf2, fun p hp => ?_⟩⟩
    have t3 := smNew1 hp (.tup acc)
    refine ⟨_, rfl, (by show 2 ≤ sizeLine; decide), fun p2 np2 => ?_⟩
    have t4 := smNew1 np2 (.tup [.ref p, .int (a : Int)])
    refine q done e (by rw [hB, he]; show (some (done ++ []), e) = _; rw [List.append_nil]) p2 (.ref p) _ (s1.trans (s2.trans (t3.trans t4))) ?_ (.tup (smT t4 (SqT.of upd_same)) (DpAll.keep (s2.trans (t3.trans t4)) hacc))
    rw [hae]
    exact SqT.of upd_same
  by_cases haL : a < L.length
  case neg =>
    have hd0 : L.drop a = [] := List.drop_eq_nil_iff.mpr (by omega)
    refine ifF (decide_eq_false (by rw [e17]; omega)) ?_
    exact fin [] (by rw [hd0]; rfl) (by show L.length - 0 = a; omega) H1 (Same.refl _) _ _ _
  refine ifT (decide_eq_true (by rw [e17]; omega)) ?_
  obtain ⟨z, r, hdr⟩ : ∃ z r, L.drop a = z :: r := by
    cases e : L.drop a with
    | nil => rw [e] at ldr; simp at ldr; omega
    | cons z r => exact ⟨z, r, rfl⟩
  have hatz := drop_head hdr
  have hdr1 := drop_next hdr
  have zl := zL z (List.mem_of_getElem? hatz)
  have lls : z.length ≤ sizeLine := Nat.le_of_lt (small1000 (by omega))
  have atv : atI (L.map V.str) (a : Int) = some (.str z) := atI_nat (by rw [List.getElem?_map, hatz]; rfl)
  have lr : r.length = L.length - (a + 1) := by rw [← hdr1, List.length_drop]
  have hae : L.length - (z :: r).length = a := by rw [List.length_cons]; omega
  refine ⟨_, rfl, _, rfl, _, _, _, _, rfl, rfl, hL1, atv, _, rfl, _, rfl, _, rfl, lls, _, rfl, ind, rfl, rfl, by omega, rfl, _, rfl, ?_⟩
  by_cases hp : cutS z none (some (ind : Int)) = spc ind
  case neg =>
    refine ifF (decide_eq_false fun e => hp (V.str.inj e)) ?_
    exact fin _ (by rw [hdr]; exact BR_out (by unfold inB; rw [decide_eq_false hp]; rfl)) hae H1 (Same.refl _) _ _ _
  refine ifT (decide_eq_true (congrArg V.str hp)) ?_
  refine ⟨_, rfl, _, rfl, _, _, _, _, rfl, rfl, hL1, atv, _, rfl, ind, rfl, rfl, by omega, _, _, rfl, rfl, ?_, rfl, _, rfl, ?_⟩
  · rw [← Str.length_append]
    exact Nat.le_of_lt (small1000 (by show (elseL ind).length ≤ 1000; omega))
  by_cases hel : z = elseL ind
  case pos =>
    refine ifF (by rw [show spc ind ++ "else" = elseL ind from rfl, decide_eq_true (congrArg V.str hel)]; rfl) ?_
    exact fin _ (by rw [hdr]; exact BR_out (by unfold inB; rw [show decide (z ≠ elseL ind) = false from decide_eq_false (fun k => k hel), Bool.and_false])) hae H1 (Same.refl _) _ _ _
  refine ifT (by rw [show spc ind ++ "else" = elseL ind from rfl, decide_eq_false fun e => hel (V.str.inj e)]; rfl) ?_
  have hin : inB ind z = true := by unfold inB; rw [decide_eq_true hp, decide_eq_true hel]; rfl
  refine ⟨fun σ' H' => ∃ a' done, a < a' ∧ at_ ≤ a' ∧ a' ≤ L.length ∧ BR ind (L.drop at_) = glueB done (BR ind (L.drop a')) ∧ done.length ≤ a' ∧ Same H H' ∧ ∃ f acc, H f = none ∧ H' f = some (.lst acc) ∧ DpAll K H' acc (encB false done) ∧ ∃ v4 v5 v6, σ' = [some (.ref la), some (.int (a' : Int)), some (.int ind), some (.ref f), v4, v5, v6],
    fun σ' H' h => ?_, ?_⟩
  · obtain ⟨a', done', h1, h2, h3, h4⟩ := h
    exact ⟨L.length - a', by omega, a', done', rfl, h2, h3, h4⟩
  -- one = plain_statement(lines[at], indent)
  refine ⟨_, rfl, _, rfl, _, _, _, _, rfl, rfl, hL1, atv, _, rfl, z, ind, rfl, zl, rfl, by omega, fun hn H2 s2 => ?_, fun st hst o H2 s2 ho => ?_⟩
  · refine ⟨_, rfl, _, rfl, ifT rfl ?_⟩
    refine ⟨_, rfl, _, _, rfl, rfl, ?_⟩
    refine raise1 fun d H' nd e hd => ?_
    refine qE (z :: r) (by rw [hB, hdr, BR_bad hin hn]; rfl) d H' (s1.trans (s2.trans e)) ?_
    rw [hae]
    exact hd
  refine ⟨_, rfl, _, rfl, ifF rfl ?_⟩
  refine ⟨_, rfl, _, _, rfl, rfl, ?_⟩
  refine ⟨_, rfl, _, _, _, _, rfl, rfl, ho, at0, _, _, _, rfl, rfl, kd_form T st, ⟨_, rfl⟩, _, _, rfl, rfl, ?_⟩
  rw [count_b]
  have hL2 := s2.seq hL1
  have fl2 := flats_len st
  have wst := head_line' hst
  -- what goes wrong within its bodies
  have bad : ∀ e, partsW BR ind st r = (none, e) → BR ind (L.drop at_) = (none, e) := fun e he => by
    rw [hB, hdr, BR_in hin hst, he]
    rfl
  have hdr1' : L.drop (a + 1) = r := hdr1
  refine ⟨fun σ' H' => Same H2 H' ∧ ∃ a1 o' bs v6, a < a1 ∧ a1 ≤ L.length ∧ σ' = [some (.ref la), some (.int ((a1 : Nat) : Int)), some (.int ind), some (.ref f), some (.ref o'), some (.int ((st.bodies.length : Nat) : Int)), v6] ∧
    SqT K H' o' (.str st.word :: (st.flats.map vD ++ bs)) ∧ ((st.bodies.length = 0 ∧ a1 = a + 1 ∧ bs = []) ∨ (1 ≤ st.bodies.length ∧ ∃ b1, BR (ind + 2) r = (some b1, L.drop a1) ∧ DpAll K H' bs [.tuple (encB false b1)])), ?_, ?_⟩
  · refine ⟨_, rfl, _, _, rfl, rfl, _, rfl, ?_⟩
    by_cases hb : st.bodies.length = 0
    · refine ifF (decide_eq_false (by rw [hb]; show ¬ (((0 : Nat) : Int) > 0); omega)) ?_
      exact ⟨Same.refl _, a + 1, o, [], _, by omega, haL, rfl, by rw [List.append_nil]; exact ho, .inl ⟨hb, rfl, rfl⟩⟩
    have hb1 : 1 ≤ st.bodies.length := by omega
    refine ifT (decide_eq_true (by show ((st.bodies.length : Nat) : Int) > 0; omega)) ?_
    refine ⟨_, rfl, _, rfl, _, rfl, _, _, rfl, rfl, la, L, a + 1, ind + 2, rfl, rfl, rfl, hL2, haL, by rw [List.length_drop]; omega, by omega, lL, zL, fun b1 e1 he1 t v H3 s3 ht hv => ?_, fun e1 he1 d H3 s3 hd => ?_⟩
    · rw [hdr1'] at he1
      obtain ⟨q1, _⟩ := BR_back he1
      obtain ⟨p1, p2, p3⟩ := drop_end (hdr1'.trans q1) haL
      refine ⟨t, _, rfl, ht, rfl, _, _, rfl, _, _, rfl, rfl, ?_⟩
      refine ⟨_, rfl, _, rfl, (by show 1 ≤ sizeLine; decide), fun p4 np4 => ?_⟩
      have t4 := smNew1 np4 (.tup [v])
      refine catA_of (smT (s3.trans t4) ho) (SqT.of upd_same) (Nat.le_of_lt (small1000 (by rw [List.length_cons, List.length_map]; show _ + 1 + 1 ≤ 1000; omega))) fun t5 H5 s5 h5 => ?_
      refine ⟨s3.trans (t4.trans s5), L.length - e1.length, t5, [v], _, by omega, by omega, rfl, h5, .inr ⟨hb1, b1, by rw [p1]; exact he1, .cons (Dp.keep (t4.trans s5) hv) .nil⟩⟩
    · rw [hdr1'] at he1
      exact qE e1 (bad e1 (partsE hb1 he1)) d H3 (s1.trans (s2.trans s3)) hd
  rintro σ' H3 ⟨s3, a1, o1, bs, v61, ha1, ha1L, rfl, ho1, hpart⟩
  have hL3 := s3.seq hL2
  refine ⟨fun σ' H' => Same H2 H' ∧ ∃ a2 o' bs v6 st2, a < a2 ∧ a2 ≤ L.length ∧ σ' = [some (.ref la), some (.int ((a2 : Nat) : Int)), some (.int ind), some (.ref f), some (.ref o'), some (.int ((st.bodies.length : Nat) : Int)), v6] ∧
    SqT K H' o' (.str st.word :: (st.flats.map vD ++ bs)) ∧ DpAll K H' bs (st2.bodies.map fun b => .tuple (encB false b)) ∧ partsW BR ind st r = (some st2, L.drop a2) ∧ st2.word = st.word ∧ st2.flats = st.flats, ?_, ?_⟩
  · refine ⟨_, rfl, _, _, rfl, rfl, _, rfl, ?_⟩
    rcases hpart with ⟨hb, rfl, rfl⟩ | ⟨hb, b1, hb1, hbs⟩
    · refine ifF (decide_eq_false (by rw [hb]; show ¬ (((0 : Nat) : Int) > 1); omega)) ?_
      have b0 : st.bodies = [] := List.length_eq_zero_iff.mp hb
      exact ⟨s3, a + 1, o1, [], v61, st, ha1, ha1L, rfl, ho1, by rw [b0]; exact .nil, by rw [parts0 hb, hdr1'], rfl, rfl⟩
    rcases bodies_one_two hb with hb | hb
    · refine ifF (decide_eq_false (by rw [hb]; show ¬ (((1 : Nat) : Int) > 1); omega)) ?_
      exact ⟨s3, a1, o1, bs, v61, st.put [b1], ha1, ha1L, rfl, ho1, by rw [put_bodies (by rw [hb]; rfl)]; exact hbs, parts1 hb hb1, put_word, put_flats⟩
    refine ifT (decide_eq_true (by rw [hb]; show ((2 : Nat) : Int) > 1; omega)) ?_
    refine ⟨_, rfl, _, rfl, _, _, rfl, .inl hL3, _, _, rfl, rfl, _, rfl, ?_⟩
    by_cases hend : L.length ≤ a1
    · refine ifT (decide_eq_true (by rw [e17]; omega)) ?_
      have hd0 : L.drop a1 = [] := List.drop_eq_nil_iff.mpr hend
      rw [hd0] at hb1
      refine ifT rfl ?_
      refine ⟨_, rfl, _, _, rfl, rfl, ?_⟩
      refine raise1 fun d H' nd e hd => ?_
      refine qE [] (bad _ (parts2n hb hb1)) d H' (s1.trans (s2.trans (s3.trans e))) ?_
      rw [show L.length - ([] : List Str).length = a1 by show L.length - 0 = a1; omega]
      exact hd
    refine ifF (decide_eq_false (by rw [e17]; omega)) ?_
    obtain ⟨z1, r1, hd1⟩ : ∃ z1 r1, L.drop a1 = z1 :: r1 := by
      have l1 : (L.drop a1).length = L.length - a1 := List.length_drop ..
      cases e : L.drop a1 with
      | nil => rw [e] at l1; simp at l1; omega
      | cons z r => exact ⟨z, r, rfl⟩
    have hatE := drop_head hd1
    have hdB := drop_next hd1
    rw [hd1] at hb1
    have lr1 : r1.length = L.length - (a1 + 1) := by rw [← hdB, List.length_drop]
    refine ⟨_, rfl, _, rfl, _, _, _, _, rfl, rfl, hL3, atI_nat (by rw [List.getElem?_map, hatE]; rfl), _, rfl, ind, rfl, rfl, by omega, _, _, rfl, rfl, ?_, rfl, _, rfl, ?_⟩
    · rw [← Str.length_append]
      exact Nat.le_of_lt (small1000 (by show (elseL ind).length ≤ 1000; omega))
    by_cases he : z1 = elseL ind
    case neg =>
      refine ifT (by rw [show spc ind ++ "else" = elseL ind from rfl, decide_eq_false fun e => he (V.str.inj e)]; rfl) ?_
      refine ⟨_, rfl, _, _, rfl, rfl, ?_⟩
      refine raise1 fun d H' nd e hd => ?_
      refine qE (z1 :: r1) (bad _ (parts2x hb hb1 he)) d H' (s1.trans (s2.trans (s3.trans e))) ?_
      rw [show L.length - (z1 :: r1).length = a1 by rw [List.length_cons]; omega]
      exact hd
    refine ifF (by rw [show spc ind ++ "else" = elseL ind from rfl, decide_eq_true (congrArg V.str he)]; rfl) ?_
    rw [he] at hb1
    refine ⟨_, rfl, _, rfl, _, _, rfl, rfl, _, rfl, _, _, rfl, rfl, la, L, a1 + 1, ind + 2, rfl, rfl, rfl, hL3, by omega, by rw [List.length_drop]; omega, by omega, lL, zL, fun b2 e2 he2 t v H4 s4 ht hv => ?_, fun e2 he2 d H4 s4 hd => ?_⟩
    · rw [hdB] at he2
      obtain ⟨q1, _⟩ := BR_back he2
      obtain ⟨p1, p2, p3⟩ := drop_end (hdB.trans q1) (by omega)
      refine ⟨t, _, rfl, ht, rfl, _, _, rfl, _, _, rfl, rfl, ?_⟩
      refine ⟨_, rfl, _, rfl, (by show 1 ≤ sizeLine; decide), fun p4 np4 => ?_⟩
      have t4 := smNew1 np4 (.tup [v])
      have lbs : bs.length = 1 := DpAll.len hbs
      refine catA_of (smT (s4.trans t4) ho1) (SqT.of upd_same) (Nat.le_of_lt (small1000 (by rw [List.length_cons, List.length_append, List.length_map]; show _ + _ + 1 + 1 ≤ 1000; omega))) fun t5 H5 s5 h5 => ?_
      have k5 := s4.trans (t4.trans s5)
      rw [List.cons_append, List.append_assoc] at h5
      refine ⟨s3.trans k5, L.length - e2.length, t5, bs ++ [v], some v, st.put [b1, b2], by omega, by omega, rfl, h5, ?_, by rw [p1]; exact parts2 hb hb1 he2, put_word, put_flats⟩
      rw [put_bodies (by rw [hb]; rfl)]
      exact DpAll.snoc (DpAll.keep k5 hbs) (Dp.keep (t4.trans s5) hv)
    · rw [hdB] at he2
      exact qE e2 (bad e2 (parts2e hb hb1 he2)) d H4 (s1.trans (s2.trans (s3.trans s4))) hd
  rintro σ' H4 ⟨s4, a2, o2, bs2, v62, st2, ha2, ha2L, rfl, ho2, hbs2, hpw, hwd, hfl⟩
  have k4 : Same H1 H4 := s2.trans s4
  have hf4 := k4 _ _ hf
  have lacc : acc.length = done.length := by rw [DpAll.len hacc, encB_map, List.length_map]
  refine ⟨_, rfl, .inl ⟨rfl, _, SqL.of hf4⟩, _, rfl, f, acc, _, rfl, rfl, hf4, small1000 (by omega), ?_⟩
  have tsF : TS K H4 (upd H4 f (.lst (acc ++ [.ref o2]))) := ts_upd _ hf4 trivial
  have dpt : Dp K H4 (.ref o2) (encS false st2) := by
    rw [encS_eq]
    refine .tup ho2 ?_
    rw [hwd, hfl]
    refine .cons (.str _) (DpAll.app flats_dp ?_)
    exact hbs2
  refine ⟨a2, done ++ [st2], ha2, by omega, ha2L, ?_, by rw [List.length_append]; show done.length + 1 ≤ a2; omega, smOut (s1.trans k4) nf _, f, acc ++ [.ref o2], nf, upd_same, ?_, some (.ref o2), some (.int ((st.bodies.length : Nat) : Int)), v62, rfl⟩
  · rw [hB, hdr, BR_in hin hst, hpw]
    exact glueB_next
  · rw [encB_map, List.map_append, ← encB_map]
    exact DpAll.snoc (dps_ts tsF (DpAll.keep k4 hacc) (noL_encB _)) (dp_ts tsF dpt (noL_encS st2))
theorem c_body_of (T : Top w K mg) : ∀ n, Cal P w K mg base (L2.CX P w) (n + 3) "body_of" (spBodyG K n)
  | 0 => calX_never (f_body_of T) (g_body_of T) (ps := ["lines", "at", "indent"]) (fun _ _ _ _ _ _ us hl => match us, hl with | [_, _, _], _ => rfl) fun vs H Q E h => by
      match vs, h with
      | [x, y, z], h =>
      obtain ⟨_, _, _, _, _, _, _, _, _, h, _⟩ := h
      omega
  | n + 1 => ok_body_of T (c_body_of T n)
end
end RM

set_option Elab.async false
set_option linter.all false
set_option maxRecDepth 100000
set_option maxHeartbeats 4000000
namespace RM
open PySem PySem.Spec PyProof.Rows L2
/-! ### no line feed within a line -/
theorem joinL_free {c : Nat} (hc : c ≠ 32) : ∀ ps : List (List Nat), (∀ p ∈ ps, c ∉ p) → c ∉ TL.joinL [32] ps
  | [], _ => by simp [TL.joinL]
  | [p], h => h p List.mem_cons_self
  | p :: q :: r, h => by
    show c ∉ p ++ ([32] ++ TL.joinL [32] (q :: r))
    simp only [List.mem_append, List.mem_singleton, not_or]
    exact ⟨h p List.mem_cons_self, hc, joinL_free hc (q :: r) fun z hz => h z (List.mem_cons_of_mem _ hz)⟩
theorem line_free {i : Nat} {s : Stm} (h : wl s = true) : 10 ∉ TL.tl (line i s.toks) := by
  show 10 ∉ cl (spc i ++ Txt.join " " s.toks)
  rw [cl_app, List.mem_append, cl_spc, not_or]
  refine ⟨fun z => by have := List.eq_of_mem_replicate z; omega, ?_⟩
  show 10 ∉ TL.tl (Txt.join " " s.toks)
  rw [TL.join_eq, TL.tl_join, show TL.tl (" " : Str) = [32] from blank_list]
  refine joinL_free (by decide) _ fun p hp => ?_
  obtain ⟨z, hz, rfl⟩ := List.mem_map.mp hp
  have t := toks_ok h z hz
  unfold tokOk at t
  simp only [Bool.and_eq_true, decide_eq_true_eq, List.all_eq_true] at t
  exact fun m => (t.2.2 10 m).2.1 rfl
theorem else_free (i : Nat) : 10 ∉ TL.tl (elseL i) := by
  show 10 ∉ cl (spc i ++ "else")
  rw [cl_app, List.mem_append, cl_spc, not_or]
  exact ⟨fun z => by have := List.eq_of_mem_replicate z; omega, by decide +kernel⟩
mutual
theorem lnS_free (i : Nat) : ∀ s : Stm, wS s = true → ∀ z ∈ lnS i s, 10 ∉ TL.tl z
  | .read v k, h, z, hz => by rw [lnS, List.mem_singleton] at hz; rw [hz]; exact line_free (wl_of h)
  | .set v n, h, z, hz => by rw [lnS, List.mem_singleton] at hz; rw [hz]; exact line_free (wl_of h)
  | .copy v u, h, z, hz => by rw [lnS, List.mem_singleton] at hz; rw [hz]; exact line_free (wl_of h)
  | .print v, h, z, hz => by rw [lnS, List.mem_singleton] at hz; rw [hz]; exact line_free (wl_of h)
  | .say n, h, z, hz => by rw [lnS, List.mem_singleton] at hz; rw [hz]; exact line_free (wl_of h)
  | .wait, h, z, hz => by rw [lnS, List.mem_singleton] at hz; rw [hz]; exact line_free (wl_of h)
  | .stop, h, z, hz => by rw [lnS, List.mem_singleton] at hz; rw [hz]; exact line_free (wl_of h)
  | .ite v n a b, h, z, hz => by
    have hl := line_free (i := i) (wl_of h)
    simp only [wS, Bool.and_eq_true] at h
    simp only [lnS, List.mem_cons, List.mem_append] at hz
    rcases hz with rfl | hz | rfl | hz
    · exact hl
    · exact lnB_free (i + 2) a h.2.1 z hz
    · exact else_free i
    · exact lnB_free (i + 2) b h.2.2 z hz
  | .same v u a b, h, z, hz => by
    have hl := line_free (i := i) (wl_of h)
    simp only [wS, Bool.and_eq_true] at h
    simp only [lnS, List.mem_cons, List.mem_append] at hz
    rcases hz with rfl | hz | rfl | hz
    · exact hl
    · exact lnB_free (i + 2) a h.2.1 z hz
    · exact else_free i
    · exact lnB_free (i + 2) b h.2.2 z hz
  | .rep n a, h, z, hz => by
    have hl := line_free (i := i) (wl_of h)
    simp only [wS, Bool.and_eq_true] at h
    simp only [lnS, List.mem_cons] at hz
    rcases hz with rfl | hz
    · exact hl
    · exact lnB_free (i + 2) a h.2 z hz
theorem lnB_free (i : Nat) : ∀ l : List Stm, wB l = true → ∀ z ∈ lnB i l, 10 ∉ TL.tl z
  | [], _, z, hz => by simp [lnB] at hz
  | s :: r, h, z, hz => by
    simp only [wB, Bool.and_eq_true] at h
    rw [lnB, List.mem_append] at hz
    rcases hz with hz | hz
    · exact lnS_free i s h.1 z hz
    · exact lnB_free i r h.2 z hz
end
theorem feed_list : TL.tl ("\n" : Str) = [10] := by decide +kernel
end RM

set_option Elab.async false
set_option linter.all false
set_option maxRecDepth 100000
set_option maxHeartbeats 4000000
set_option pp.maxSteps 600
set_option pp.deepTerms false
namespace RM
open PySem PySem.Spec PyProof.Rows L2
abbrev names12 : List Str := ["BadValues", "TooLong", "TooDeep", "TooMany", "NoRead", "NothingToUndo", "BadValue", "NoKey", "BadStatement", "BadSchedule", "BadText", "NoChange"]
section
variable {P : Program} {w : World} {K : PySem.W.Frag} {mg : Str → Option Value} {base : Heap}
/-! ### read("loop") -/
def spRead1 (K : PySem.W.Frag) : Sp := fun vs H Q E => match vs with
  | [x] => x = .str "loop" ∧ ∀ d H', Same H H' → H' d = some (.xd [("line", .int 1)]) → E (.ref (He.ga K "BadText")) (some d) H'
  | _ => False
theorem sc_read : FnScope ["text", "lines", "body", "at"] ["text"] (defScope s_read) := ⟨rfl, rfl, rfl, by decide +kernel, rfl, by decide +kernel, by decide +kernel⟩
theorem c_read (T : Top w K mg) : Cal P w K mg base (L2.CX P w) 113 "read" (spRead1 K) := by
  refine cal_X (f_read T) (g_read T) sc_read (fun _ _ _ _ _ _ us hl => match us, hl with | [_], _ => rfl) (fun vs H Q E h => match vs, h with | [_], _ => rfl) (fun cdv A outer s H vs Q E hr h => ?_)
  match vs, h with
  | [x], h =>
  obtain ⟨rfl, q⟩ := h
  refine ⟨_, (pss_cons (ps_set (i := 1) sc_read.nd rfl (Or.inl rfl) (pe_lst pa_nil))
    (pss_cons (ps_mid (ps_if (pt_cmpR op_ne (pv 0) pe_str (nomark _))
      (pss_one (ps_set (i := 1) sc_read.nd rfl (Or.inl rfl) (pe_split (pv 0) pe_str)))
      pss_nil))
    (pss_cons (ps_asg (pcX (takes_of rfl rfl rfl rfl) (c_body_of T 101) hr (pa_cons (pv 1) (pa_cons pe_int (pa_cons pe_int pa_nil)))) (pg_tup rfl (pgs_cons (pg_name (i := 2) sc_read.nd rfl (Or.inl rfl)) (pgs_cons (pg_name (i := 3) sc_read.nd rfl (Or.inl rfl)) pgs_nil))))
    (pss_cons (ps_if (pt_cmpR op_lt (pv 3) (pcb (z_len T) call_len_seq boot_len (pa_cons (pv 1) pa_nil)) (nomark _))
      (pss_one (ps_raiseX (takes_of rfl rfl rfl rfl) (c_BadText_init T) hr (pa_cons (pe_op op_add (pv 3) pe_int) pa_nil)))
      pss_nil)
    (pss_one (ps_ret pe_never)))))), ?_⟩
  refine ⟨(by show 0 ≤ sizeLine; decide), fun p1 np1 => ?_⟩
  have t1 := smNew1 np1 (.lst [])
  refine ⟨fun σ H' => Same H H' ∧ ∃ p v2 v3, σ = [some (.str "loop"), some (.ref p), v2, v3] ∧ H' p = some (.lst [.str "loop"]), ?_, ?_⟩
  · refine ⟨_, rfl, rfl, _, rfl, ?_⟩
    refine ifT (by rw [decide_eq_false fun h => absurd (V.str.inj h) (by decide +kernel)]; rfl) ?_
    refine ⟨_, rfl, ⟨_, rfl⟩, _, _, rfl, rfl, by decide +kernel, by decide +kernel, fun p2 np2 => ?_⟩
    have e : Txt.split "loop" "\n" = (["loop"] : List Str) := by decide +kernel
    rw [e]
    exact ⟨smNew t1 np2 _, p2, _, _, rfl, upd_same⟩
  · rintro σ H1 ⟨s1, p, v2, v3, rfl, hp⟩
    have eb : BR 0 (["loop"] : List Str) = (none, (["loop"] : List Str)) := BR_bad (by decide +kernel) (Option.isNone_iff_eq_none.mp (by decide +kernel))
    refine ⟨_, rfl, p, ["loop"], 0, 0, rfl, rfl, rfl, SqL.of hp, Nat.zero_le _, by decide, by decide, by decide, (fun z hz => by rw [List.mem_singleton.mp hz]; decide +kernel), fun l e he => ?_, fun e he d H2 s2 hd => ?_⟩
    · rw [List.drop_zero, eb] at he
      cases he
    · rw [List.drop_zero, eb] at he
      cases he
      exact q d H2 (s1.trans s2) hd
end
end RM

set_option Elab.async false
set_option linter.all false
set_option maxRecDepth 100000
set_option maxHeartbeats 4000000
set_option pp.maxSteps 600
set_option pp.deepTerms false
namespace RM
open PySem PySem.Spec PyProof.Rows L2
theorem bool_if {t n : Nat} : decide (V.int t = V.int n) = decide (t = n) := by
  rw [dec_int]
  rw [Bool.eq_iff_iff, beq_iff_eq, decide_eq_true_iff]
  omega
theorem rep_up {K : PySem.W.Frag} {H : Hp} {l t l' : Addr} {ds : List PyData} (h : Dp K H (.ref l) (.list ds)) (ht : H t = none) (hl : (upd H t (.tup [.str "repeat", .int 1, .ref l])) l' = none) :
    Dp K (upd (upd H t (.tup [.str "repeat", .int 1, .ref l])) l' (.lst [.ref t])) (.ref l') (.list [.tuple [.str "repeat", .int 1, .list ds]]) := by
  have s1 : Same H (upd H t (.tup [.str "repeat", .int 1, .ref l])) := smNew1 ht _
  have s2 : Same (upd H t (.tup [.str "repeat", .int 1, .ref l])) (upd (upd H t (.tup [.str "repeat", .int 1, .ref l])) l' (.lst [.ref t])) := smNew1 hl _
  exact .lst (SqL.of upd_same) (.cons (.tup (SqT.of (s2 _ _ upd_same)) (.cons (.str _) (.cons (.int _) (.cons (Dp.keep (s1.trans s2) h) .nil)))) .nil)
abbrev cs17 : List WM := (List.range 17).map fun (i : Nat) => [("a", ((i : Nat) : Int))]
theorem refs_of {K : PySem.W.Frag} {H : Hp} : ∀ {ys : List V} {gs : List WM}, Paired (fun y g => ∃ c, y = V.ref c ∧ ChgAt K H c g) ys gs → ∃ cv : List Addr, ys = cv.map V.ref ∧ Paired (fun c g => ChgAt K H c g) cv gs
  | _, _, .nil => ⟨[], rfl, .nil⟩
  | _, _, .cons ⟨c, h1, h2⟩ t => by
    obtain ⟨cv, e, p⟩ := refs_of t
    exact ⟨c :: cv, by rw [h1, e]; rfl, .cons h2 p⟩
section
variable {P : Program} {w : World} {K : PySem.W.Frag} {mg : Str → Option Value} {base : Heap}
/-- what is let out: the class of the t-th name -/
def OutE (K : PySem.W.Frag) (H : Hp) (E : XK) (t : Nat) : Prop := ∀ d H', Same H H' → (∀ dx, d = some dx → ∃ fs, H' dx = some (.xd fs)) → E (.ref (He.ga K (names12.getD t ""))) d H'
theorem out_n {H : Hp} {E : XK} {t : Nat} (h : OutE K H E t) {H' : Hp} (e : Same H H') : E (.ref (He.ga K (names12.getD t ""))) none H' := h none H' e fun dx z => nomatch z
theorem out_s {H : Hp} {E : XK} {t : Nat} (h : OutE K H E t) {H' : Hp} {d : Addr} {fs : List (Str × V)} (e : Same H H') (hd : H' d = some (.xd fs)) : E (.ref (He.ga K (names12.getD t ""))) (some d) H' := h (some d) H' e fun dx z => ⟨fs, by cases z; exact hd⟩
def spFirst (K : PySem.W.Frag) : Sp := fun vs H Q E => match vs with
  | [x, y] => ∃ (t : Nat) (b : Addr), x = .int t ∧ y = .ref b ∧ SurAt K H b w1 ∧ (6 ≤ t → ∀ H', Same H H' → Q .non H') ∧ (t < 6 → OutE K H E t)
  | _ => False
theorem sc_law_first : FnScope ["_law_at", "_law_place", "_law_k"] ["_law_at", "_law_place"] (defScope s_law_first) := ⟨rfl, rfl, rfl, by decide +kernel, rfl, by decide +kernel, by decide +kernel⟩
theorem c_law_first (T : Top w K mg) : Cal P w K mg base (L2.CX P w) 60 "_law_first" (spFirst K) := by
  refine cal_X (f_law_first T) (g_law_first T) sc_law_first (fun _ _ _ _ _ _ us hl => match us, hl with | [_, _], _ => rfl) (fun vs H Q E h => match vs, h with | [_, _], _ => rfl) (fun cdv A outer s H vs Q E hr h => ?_)
  match vs, h with
  | [x, y], h =>
  obtain ⟨t, b, rfl, rfl, sb, q, qE⟩ := h
  refine ⟨_, (pss_cons (ps_if (pt_cmpR op_eq (pv 0) pe_int (nomark _))
      (pss_one (ps_expr (pmkX (takes_of rfl rfl rfl rfl) (cx_Change_init T) hr (pa_cons (pe_disp (pps_cons pe_str pe_int pps_nil) (by rfl) (by rfl) (fun z => by cases z) (by decide)) pa_nil))))
      pss_nil)
    (pss_cons (ps_if (pt_cmpR op_eq (pv 0) pe_int (nomark _))
      (pss_one (ps_expr (pmkX (takes_of rfl rfl rfl rfl) (cg_Program_init T) hr (pa_cons (pe_lc (own := [("_law_k", 2)]) rfl sc_law_first.nd (pi_range1 rfl (z_range T) (pa_cons pe_int pa_nil)) (blkOk_by (own := [("_law_k", 2)]) (N := ["_law_at", "_law_place", "_law_k"]) (sc := defScope s_law_first) (by decide +kernel)) (fun _ _ _ _ _ => (pg_name (i := 2) sc_law_first.nd rfl (Or.inl rfl) (Or.inr rfl))) (fun _ _ _ _ _ => pts_nil) (fun _ _ _ _ _ => (pe_tup (pa_cons pe_str pa_nil)))) pa_nil))))
      pss_nil)
    (pss_cons (ps_if (pt_cmpR op_eq (pv 0) pe_int (nomark _))
      (pss_one (ps_expr (pmkX (takes_of rfl rfl rfl rfl) (cg_Program_init T) hr (pa_cons (pe_lst (pa_cons (pe_tup (pa_cons pe_str (pa_cons pe_int (pa_cons (pe_lst (pa_cons (pe_tup (pa_cons pe_str (pa_cons pe_int (pa_cons (pe_lst (pa_cons (pe_tup (pa_cons pe_str (pa_cons pe_int (pa_cons (pe_lst (pa_cons (pe_tup (pa_cons pe_str (pa_cons pe_int (pa_cons (pe_lst pa_nil) pa_nil)))) pa_nil)) pa_nil)))) pa_nil)) pa_nil)))) pa_nil)) pa_nil)))) pa_nil)) pa_nil))))
      pss_nil)
    (pss_cons (ps_if (pt_cmpR op_eq (pv 0) pe_int (nomark _))
      (pss_one (ps_expr (pcX (takes_of rfl rfl rfl rfl) (c_reachable T) hr (pa_cons (pv 1) (pa_cons (pe_lc (own := [("_law_k", 2)]) rfl sc_law_first.nd (pi_range1 rfl (z_range T) (pa_cons pe_int pa_nil)) (blkOk_by (own := [("_law_k", 2)]) (N := ["_law_at", "_law_place", "_law_k"]) (sc := defScope s_law_first) (by decide +kernel)) (fun _ _ _ _ _ => (pg_name (i := 2) sc_law_first.nd rfl (Or.inl rfl) (Or.inr rfl))) (fun _ _ _ _ _ => pts_nil) (fun _ _ _ _ _ => (pmk (c_Change_init T) hr (pa_cons (pe_disp (pps_cons pe_str (pv 2) pps_nil) (by rfl) (by rfl) (fun z => by cases z) (by decide)) pa_nil)))) pa_nil)))))
      pss_nil)
    (pss_cons (ps_if (pt_cmpR op_eq (pv 0) pe_int (nomark _))
      (pss_one (ps_expr (pcX (takes_of rfl rfl rfl rfl) (c_torn_by T) hr (pa_cons (pmk (c_Program_init T) hr (pa_cons (pe_lst pa_nil) pa_nil)) (pa_cons (pv 1) (pa_cons (pe_lst pa_nil) (pa_cons (pe_tup (pa_cons pe_int pa_nil)) (pa_cons (pe_tup (pa_cons pe_int pa_nil)) pa_nil))))))))
      pss_nil)
    (pss_one (ps_if (pt_cmpR op_eq (pv 0) pe_int (nomark _))
      (pss_one (ps_expr (pmtX0 (takes_of rfl rfl rfl rfl) (c_Desk_undo T) hr (pmk (c_Desk_init T) hr (pa_cons (pv 1) pa_nil)))))
      pss_nil))))))), ?_⟩
  refine ⟨_, rfl, rfl, _, rfl, ?_⟩
  by_cases c0 : t = 0
  case pos =>
    subst c0
    refine ifT (bool_if (n := 0)) ?_
    refine fun d hd => ⟨upd_same, [(.inr "A", .int 1)], rfl, by decide, ?_⟩
    intro x dx hx hdx hne
    have mI := mk_in (C := He.ga K "Change") hx hdx hne
    have sd : Same H (upd (upd H d (.dK [])) d (.dK [((.inr "A" : Key), V.int 1)])) := fun c u hc => by
      have := ne_of_none hc hd
      rw [upd_ne this, upd_ne this]
      exact hc
    have hd1 : (upd (upd H d (.dK [])) d (.dK [((.inr "A" : Key), V.int 1)])) d = some (.dK [((.inr "A" : Key), V.int 1)]) := upd_same
    have hd2 := mI _ _ hd1
    have hx : (upd (upd H d (.dK [])) d (.dK [((.inr "A" : Key), V.int 1)])) x = none := hx
    have xd : x ≠ d := fun z => by rw [z, hd1] at hx; cases hx
    have gk : ∀ H : Hp, GOk K H (ofK [((.inr "A" : Key), V.int 1)]) := fun H => ⟨fun p hp => by
      rw [List.mem_singleton.mp hp]
      exact ⟨.str _, fun z e => (by cases e; decide +kernel), .inl ⟨_, rfl⟩⟩, by decide +kernel⟩
    have gf : goodG (ofK [((.inr "A" : Key), V.int 1)]) 0 = false := by decide +kernel
    refine ⟨x, dx, d, ofK [((.inr "A" : Key), V.int 1)], _, rfl, rfl, .toG hd2 (by decide), by rw [upd_ne xd]; exact upd_same, upd_same, gk _, by decide, fun gd => (by rw [gf] at gd; cases gd), fun _ H' off => ?_⟩
    refine out_n (qE (by decide)) fun c u hc => ?_
    have c1 := sd _ _ hc
    refine off c u (fun z => by rw [z, hx] at c1; cases c1) ?_
    rw [upd_ne (ne_of_none hc hd)]
    exact mI _ _ c1
  refine ifF (bool_if.trans (decide_eq_false c0)) ?_
  refine ⟨_, rfl, rfl, _, rfl, ?_⟩
  by_cases c1 : t = 1
  case pos =>
    subst c1
    refine ifT (bool_if (n := 1)) ?_
    refine ⟨61, rfl, by decide, by decide, fun D nD => ?_⟩
    refine lc_opt (walk_range (lo := 0) (n := 61)) (fun (d : PyData) y H' => Dp K H' y d ∧ RM.noL d = true) (fun i => some (.tuple [.str "wait"])) nD (small1000 (by decide)) (fun _ _ => trivial) (fun _ _ _ _ h e => ⟨Dp.keep e h.1, h.2⟩) (fun _ _ _ _ _ h hl => ⟨dp_ts (ts_upd _ hl trivial) h.1 h.2, h.2⟩) ?_ ?_
    · rintro i x H1 H2 N hi e ⟨rfl, rfl⟩ hk _
      refine ⟨rfl, yesI ⟨(by show 1 ≤ sizeLine; decide), fun tp htp => ?_⟩⟩
      exact hk _ _ _ rfl (smNew1 htp _) ⟨.tup (SqT.of upd_same) (.cons (.str _) .nil), rfl⟩
    · intro H1 ys e1 hD1 hp1
      intro x dx hx hdx hne
      have mI := mk_in (C := He.ga K "Program") hx hdx hne
      have hl : Dp K H1 (.ref D) (.list (encB true (List.replicate 61 Stm.wait))) := by
        refine .lst (SqL.of hD1) ?_
        have e2 : (List.range 61).filterMap (fun i => some (PyData.tuple [.str "wait"])) = encB true (List.replicate 61 Stm.wait) := by rfl
        rw [e2] at hp1
        exact paired_dp2 hp1
      refine ⟨x, dx, rfl, upd_same, .inr (.inr ⟨true, List.replicate 61 Stm.wait, Dp.keep mI hl, by decide +kernel, by decide +kernel, by decide +kernel, fun z => absurd z (by decide +kernel), fun _ H' off => ?_, fun z => absurd z (by decide +kernel)⟩)⟩
      exact out_n (qE (by decide)) (e1.trans (mk_sm hx hdx off))
  refine ifF (bool_if.trans (decide_eq_false c1)) ?_
  refine ⟨_, rfl, rfl, _, rfl, ?_⟩
  by_cases c2 : t = 2
  case pos =>
    subst c2
    refine ifT (bool_if (n := 2)) ?_
    refine ⟨(by show 0 ≤ sizeLine; decide), fun l5 n5 => ⟨(by show 3 ≤ sizeLine; decide), fun t4 m4 => ⟨(by show 1 ≤ sizeLine; decide), fun l4 n4 => ⟨(by show 3 ≤ sizeLine; decide), fun t3 m3 => ⟨(by show 1 ≤ sizeLine; decide), fun l3 n3 => ⟨(by show 3 ≤ sizeLine; decide), fun t2 m2 => ⟨(by show 1 ≤ sizeLine; decide), fun l2 n2 => ⟨(by show 3 ≤ sizeLine; decide), fun t1 m1 => ⟨(by show 1 ≤ sizeLine; decide), fun l1 n1 => ?_⟩⟩⟩⟩⟩⟩⟩⟩⟩
    have d5 : Dp K (upd H l5 (.lst [])) (.ref l5) (.list []) := .lst (SqL.of upd_same) .nil
    have d4 := rep_up d5 m4 n4
    have d3 := rep_up d4 m3 n3
    have d2 := rep_up d3 m2 n2
    have d1 := rep_up d2 m1 n1
    have s9 := smNew (smNew (smNew (smNew (smNew (smNew (smNew (smNew (smNew1 n5 (.lst [])) m4 (.tup [.str "repeat", .int 1, .ref l5])) n4 (.lst [.ref t4])) m3 (.tup [.str "repeat", .int 1, .ref l4])) n3 (.lst [.ref t3])) m2 (.tup [.str "repeat", .int 1, .ref l3])) n2 (.lst [.ref t2])) m1 (.tup [.str "repeat", .int 1, .ref l2])) n1 (.lst [.ref t1])
    intro x dx hx hdx hne
    have mI := mk_in (C := He.ga K "Program") hx hdx hne
    refine ⟨x, dx, rfl, upd_same, .inr (.inr ⟨true, [Stm.rep 1 [Stm.rep 1 [Stm.rep 1 [Stm.rep 1 []]]]], Dp.keep mI d1, by decide +kernel, by decide +kernel, by decide +kernel, fun _ z => absurd z (by decide +kernel), fun z => absurd z (by decide +kernel), fun _ _ H' off => ?_⟩)⟩
    exact out_n (qE (by decide)) (s9.trans (mk_sm hx hdx off))
  refine ifF (bool_if.trans (decide_eq_false c2)) ?_
  refine ⟨_, rfl, rfl, _, rfl, ?_⟩
  by_cases c3 : t = 3
  case pos =>
    subst c3
    refine ifT (bool_if (n := 3)) ?_
    refine ⟨_, rfl, ?_⟩
    refine ⟨17, rfl, by decide, by decide, fun D nD => ?_⟩
    refine lc_opt (walk_range (lo := 0) (n := 17)) (fun (g : WM) y H' => ∃ c, y = .ref c ∧ ChgAt K H' c g) (fun (i : Nat) => some [("a", ((i : Nat) : Int))]) nD (small1000 (by decide)) (fun _ _ => trivial) (fun _ _ _ _ ⟨c, h1, h2⟩ e => ⟨c, h1, h2.keep e⟩) (fun _ _ _ _ _ ⟨c, h1, h2⟩ hl => ⟨c, h1, h2.off hl off_upd⟩) ?_ ?_
    · rintro i x H1 H2 N hi e ⟨rfl, rfl⟩ hk _
      refine ⟨rfl, yesI ?_⟩
      refine fun d hd => ⟨_, rfl, upd_same, [(.inr "a", .int (0 + ((i : Nat) : Int)))], rfl, (by show 1 ≤ 15; decide), ?_⟩
      intro x dx hx hdx hne
      have mI := mk_in (C := He.ga K "Change") hx hdx hne
      have i17 : i < 17 := hi
      have hd1 : (upd (upd H2 d (.dK [])) d (.dK (mK [("a", 0 + ((i : Nat) : Int))]))) d = some (.dK (mK [("a", 0 + ((i : Nat) : Int))])) := upd_same
      have okm : okM [("a", 0 + ((i : Nat) : Int))] := ⟨fun q hq => by
        rw [List.mem_singleton.mp hq]
        exact ⟨(by show isWord "a" = true; decide +kernel), by unfold isValue; rw [decide_eq_true (by omega), decide_eq_true (by omega)]; rfl⟩, by show (["a"] : List Str).Nodup; decide +kernel⟩
      refine ⟨x, dx, d, [("a", 0 + ((i : Nat) : Int))], rfl, rfl, upd_same, mI _ _ hd1, okm, Nat.zero_le _, (by show 1 ≤ 4; decide), fun H' m2 off mp pm => ⟨rfl, ?_⟩⟩
      have em : m2 = ([("a", 0 + ((i : Nat) : Int))] : WM) := List.perm_singleton.mp pm
      subst em
      rw [Int.zero_add] at mp
      have sm : Same H2 H' := fun c u hc => (mk_sm hx hdx off) _ _ (by
        have := ne_of_none hc hd
        rw [upd_ne this, upd_ne this]
        exact hc)
      exact hk _ _ _ rfl sm ⟨x, rfl, mp, by show 1 ≤ 4; decide⟩
    · intro H1 ys e1 hD1 hp1
      have e2 : (List.range 17).filterMap (fun (i : Nat) => some ([("a", ((i : Nat) : Int))] : WM)) = cs17 := by rfl
      rw [e2] at hp1
      obtain ⟨cv, rfl, pc⟩ := refs_of hp1
      have no : cs17.findSome? (lack w1) = none := by decide +kernel
      have l17 : (levM w1 cs17 1).length = 17 := by decide +kernel
      refine ⟨b, D, w1, cs17, cv, rfl, rfl, sb.keep e1, .inl (SqL.of hD1), (by rw [hD1]; exact fun z => nomatch z), pc, (fun q hq => by rw [List.mem_singleton.mp hq]; decide), fun g hg q hq => ?_, fun k z => (by rw [no] at z; cases z), fun _ => ⟨fun n _ H' e => ?_, fun n h1 h2 => ?_⟩⟩
      · obtain ⟨i, hi, rfl⟩ := List.mem_map.mp hg
        rw [List.mem_singleton.mp hq]
        have := List.mem_range.mp hi
        exact ⟨by show (0 : Int) ≤ (i : Int); omega, by show (i : Int) < 99; omega⟩
      · exact out_n (qE (by decide)) (e1.trans e)
      · cases n with
        | zero => exact absurd h1 (by decide +kernel)
        | succ n =>
          have := lev_mono (ks := wKeys w1) (cs := cs17) (s := wVals w1) (n := 1) (m := n + 1) (by omega)
          have h2 : (lev (wKeys w1) cs17 (wVals w1) (n + 1)).length ≤ 16 := h2
          have l17 : (lev (wKeys w1) cs17 (wVals w1) 1).length = 17 := l17
          omega
  refine ifF (bool_if.trans (decide_eq_false c3)) ?_
  refine ⟨_, rfl, rfl, _, rfl, ?_⟩
  by_cases c4 : t = 4
  case pos =>
    subst c4
    refine ifT (bool_if (n := 4)) ?_
    refine ⟨(by show 0 ≤ sizeLine; decide), fun l hl => ?_⟩
    have s1 : Same H (upd H l (.lst [])) := smNew1 hl _
    intro x dx hx hdx hne
    have mI := mk_in (C := He.ga K "Program") hx hdx hne
    refine ⟨x, dx, true, [], rfl, upd_same, .lst (SqL.of (mI _ _ (upd_same : (upd H l (.lst [])) l = _))) .nil, rfl, by decide, by decide, fun H1 off pr => ⟨rfl, ?_⟩⟩
    have s2 := s1.trans (mk_sm hx hdx off)
    refine ⟨_, rfl, (by show 0 ≤ sizeLine; decide), fun l2 h2 => ⟨(by show 1 ≤ sizeLine; decide), fun t1 h1 => ⟨(by show 1 ≤ sizeLine; decide), fun t2 h3 => ?_⟩⟩⟩
    have s5 := smNew (smNew (smNew1 h2 (.lst [])) h1 (.tup [.int 0])) h3 (.tup [.int 0])
    have hl2 : (upd (upd (upd H1 l2 (.lst [])) t1 (.tup [.int 0])) t2 (.tup [.int 0])) l2 = some (.lst []) := (smNew (smNew1 h1 (.tup [.int 0])) h3 (.tup [.int 0])) _ _ upd_same
    have ht1 : (upd (upd (upd H1 l2 (.lst [])) t1 (.tup [.int 0])) t2 (.tup [.int 0])) t1 = some (.tup [.int 0]) := (smNew1 h3 (.tup [.int 0])) _ _ upd_same
    exact ⟨x, b, l2, t1, 0, rfl, rfl, rfl, rfl, SqT.of ht1, pr.keep s5, sb.keep (s2.trans s5), hl2, fun H' e => out_n (qE (by decide)) ((s2.trans s5).trans e)⟩
  refine ifF (bool_if.trans (decide_eq_false c4)) ?_
  refine ⟨_, rfl, rfl, _, rfl, ?_⟩
  by_cases c5 : t = 5
  case pos =>
    subst c5
    refine ifT (bool_if (n := 5)) ?_
    refine ⟨_, rfl, ?_⟩
    intro x dx hx hdx hne
    have mI := mk_in (C := He.ga K "Desk") hx hdx hne
    refine ⟨x, dx, b, rfl, rfl, upd_same, sb.keep mI, fun H1 off da => ⟨rfl, ?_⟩⟩
    obtain ⟨d5, t5, l5, k0, k1, t0, h1, h2, h3, h4⟩ := id da
    refine ⟨x, d5, _, rfl, h1, rfl, x, rfl, da, ?_⟩
    exact out_n (qE (by decide)) (mk_sm hx hdx off)
  refine ifF (bool_if.trans (decide_eq_false c5)) ?_
  exact q (by omega) H (Same.refl _)
end
end RM

set_option Elab.async false
set_option linter.all false
set_option maxRecDepth 100000
set_option maxHeartbeats 2000000
/-! a def that answers NotImplemented at once: `if not isinstance(other, C): return NotImplemented` -/
namespace RM
open PySem PySem.Spec PyProof.Rows L2
theorem boot_NotImplemented : bootBuiltins "NotImplemented" = some .notImplemented := by decide +kernel
/-- what stands behind such a call -/
abbrev NiQ (Q : Hp → Prop) (C : Value → Shared → Prop) : Result → Shared → Prop := fun r s' => r = .ok (.ret .notImplemented) ∧ C Value.none s'
structure FnNi (P : Program) (w : World) (K : PySem.W.Frag) (mg : Str → Option Value) (base : Heap) (k : Nat) (f : Addr) (fd : FuncData) (ps : List Str) (sp : List V → Hp → (Hp → Prop) → Prop) : Prop where
  len : ∀ vs H Q, sp vs H Q → vs.length = ps.length
  run : ∀ (A : Around) (outer : List Env) (s : Shared) (H : Hp) (args : Args) (us : List Value) (vs : List V) (Q : Hp → Prop), Room k A → Env0 P w K mg base A outer s H → BindsTo s fd args (ps.zip us) → Vals vs us → sp vs H Q →
    codeAny (model P w) A (.call (.ref f) args) (fun r s' => r = .ok (.ret .notImplemented) ∧ CE outer P w H s (fun _ H' => Q H') Value.none s') s
section
variable {X : Cx}
/-- the first row of such a def -/
theorem ni_row {c : Expr} {tc : TT} {rest : List Stmt} {p1 p2 p3 : Pos} (hc : PT X c tc) (hg : Gl X "NotImplemented") (hm : X.mg "NotImplemented" = none) {pins : List (Addr × Obj)} {s : Shared} {σ : L2.St} {H : Hp} {Q : Hp → Prop} (I : Inv X pins σ H s)
    (h : tc σ H fun b H1 => b = true ∧ Q H1) : wpAny (model X.prog X.w) X.A (execs (.If c [.Return (some (.Name "NotImplemented" p1)) p2] [] p3 :: rest) X.env) (fun fl s' => fl = .ret .notImplemented ∧ ∃ H', Inv X pins σ H' s' ∧ Q H') X.xe s := by
  refine wpAny_execs_cons (wpAny_If (thn (hc.run pins s σ H _ I h) fun d s1 ⟨H1, I1, e, q⟩ => ?_))
  subst e
  exact wpAny_execs_cons (wpAny_Return_some (ld_blt I1 hg hm boot_NotImplemented ⟨rfl, H1, I1, q⟩))
end
theorem fn_ni {P : Program} {w : World} {K : PySem.W.Frag} {mg : Str → Option Value} {base : Heap} {k : Nat} {f : Addr} {name qual : Str} {params : Arguments} {body : List Stmt} {scope : Scope} {N ps : List Str} {fd : FuncData} {sp : List V → Hp → (Hp → Prop) → Prop}
    (F : FunD K name qual params body scope [] [] f fd) (S : FnScope N ps scope) (len : ∀ vs H Q, sp vs H Q → vs.length = ps.length)
    (hbody : ∀ (cdv : Value) (A : Around) (outer : List Env) (s : Shared) (H : Hp) (vs : List V) (Q : Hp → Prop), Room k (A.deeper (envOfC qual scope s.heap.objs.size f cdv)) → sp vs H Q → ∀ s1, Inv (cxOf CX0 P w K mg base N qual scope f cdv A outer s H E0) [] (L2.start N vs) H s1 →
      wpAny (model P w) (cxOf CX0 P w K mg base N qual scope f cdv A outer s H E0).A (execs body (cxOf CX0 P w K mg base N qual scope f cdv A outer s H E0).env) (fun fl s' => fl = .ret .notImplemented ∧ ∃ H', Inv (cxOf CX0 P w K mg base N qual scope f cdv A outer s H E0) [] (L2.start N vs) H' s' ∧ Q H') (cxOf CX0 P w K mg base N qual scope f cdv A outer s H E0).xe s1) :
    FnNi P w K mg base (k + 1) f fd ps sp := by
  obtain ⟨oc, od, dV, kV, doc, pm, an, cdv, ct, osl, rfl, here, code, _, _⟩ := F.ex
  refine ⟨len, fun A outer s H args us vs Q hr e0 hb r hsp => ?_⟩
  have hl := len _ _ _ hsp
  have KX : K.In s.heap := e0.mod.kin.keeps (fun b o z => (e0.bs b o z).1)
  have free : s.heap.NoLimit := e0.mod.nolimit.keeps (fun b o z => (e0.bs b o z).1)
  have kinds : ∀ y ∈ ps.zip us, scope.names.lookup y.1 = some .local ∨ (scope.names.lookup y.1 = some .cell ∧ ((cellsFrom (s.heap.objs.size + 1) scope.names []).lookup y.1).isSome = true) := by
    rintro ⟨n, v⟩ hy
    exact (S.par n (List.of_mem_zip hy).1).imp id fun z => ⟨z, PySem.W.cellsFrom_some _ _ _ (Or.inl z)⟩
  apply codeAny_call_function hr.depth (KX _ _ here) rfl S.co S.gen rfl (PySem.W.codeRec_of KX code) (hb _ _ _ _ ?_)
  apply wpAny_newFunctionEnv_cells S.kind kinds
  intro env he s1 x
  subst he
  apply And.intro (free.keeps x.toInCall.keep)
  refine codeAny_func ?_
  have I : Inv (cxOf CX0 P w K mg base N qual scope f cdv A outer s H E0) [] (L2.start N vs) H s1 := inv_start S hr.hd e0 hl r x
  refine wpAny_mono (hbody cdv A outer s H vs Q (hr.deeper _) hsp s1 I) (fun fl s' hs => ?_) fun e s' hs => ?_
  · obtain ⟨rfl, H', J, q⟩ := hs
    exact ⟨rfl, V.non, H', J.os, J.bare, J.base, J.hok, rfl, q⟩
  · exact wpAny_mono hs (fun _ _ h => h.elim) fun _ _ h => h.elim
end RM

set_option Elab.async false
set_option linter.all false
set_option maxRecDepth 100000
set_option maxHeartbeats 2000000
/-! x + y of two own classes, x's __add__ answers NotImplemented, y's __radd__ does it -/
namespace RM
open PySem PySem.Spec PyProof.Rows L2
section
open PySem.W
variable {K : Frag} {C f : Addr}
theorem binop_refl {prog : Program} {w : World} {A : Around} {E : Value → Shared → Prop} {s : Shared} {x y L D fD g : Addr} {h₀ : Heap} {m : Str → Option Value} {ox : Obj} {od : Option Obj} {rC rD : Option Value} {Q : Value → Shared → Prop}
    (F : Fr h₀ L s.heap m) (X₀ : K.In h₀) (I : InstAt s.heap x ox C od) (hb : Looks (model prog w) s.heap (typeOf (.ref y)) (.ref D)) (hne : D ≠ C) (hc : selfFirst K C = true) (hd : selfFirst K D = true) (hs : findIn K (.ref C) (PySem.dunder "add") = some (some (.ref f)))
    (hf : isFn K (.ref f) = true) (hsD : findIn K (.ref D) (PySem.dunder "add") = some (some (.ref fD))) (hrC : findIn K (.ref C) (dunderR "add") = some rC) (hrD : findIn K (.ref D) (dunderR "add") = some rD) (rC' : rC = none ∨ ∃ g, rC = some (.ref g)) (rD' : rD = none ∨ ∃ g, rD = some (.ref g))
    (hg : findIn K (.ref D) (dunderR "add") = some (some (.ref g))) (hgf : isFn K (.ref g) = true)
    (sub : subIn K (.ref D) (.ref C) = some false) (h : wpAny (model prog w) A (call (.ref f) [.ref x, .ref y]) (fun v s1 => v = .notImplemented ∧ K.In s1.heap ∧ Looks (model prog w) s1.heap (typeOf (.ref x)) (.ref C) ∧ (∃ oy od2, InstAt s1.heap y oy D od2) ∧
      wpAny (model prog w) A (call (.ref g) [.ref y, .ref x]) (PySem.W.CmpBack Q) E s1) E s) : wpAny (model prog w) A (binaryOp .Add (.ref x) (.ref y)) Q E s := by
  have X := X₀.keeps F.keep
  obtain ⟨cd, rest, hcd, hm⟩ := self_first hc
  obtain ⟨dd, rest2, hdd, hm2⟩ := self_first hd
  unfold binaryOp
  apply wpAny_holding; apply wpAny_bind
  unfold binaryOp1
  apply wpAny_bind
  refine I.type.here (wpAny_bind (hb.here (wpAny_bind ?_)))
  refine (fills_K X hcd hm hs).here ?_
  have nb : (Value.ref C == Value.ref D) = false := by simpa using fun e => hne e.symm
  simp only [nb, Bool.false_eq_true, if_false]
  refine wpAny_bind ((fills_K X hdd hm2 hsD).here ?_)
  simp only [if_true, Bool.and_self]
  refine wpAny_bind ((looks_subIn X sub).here ?_)
  simp only [Bool.false_eq_true, if_false, Bool.not_false, Bool.and_self, if_true]
  refine wpAny_bind ((slot_def X hs hrC rC').here ?_)
  simp only [if_true]
  refine wpAny_bind ((slot_def X hsD hrD rD').here ?_)
  simp only [if_false, Bool.not_true, Bool.false_eq_true]
  refine wpAny_bind (m := tryMethod (.ref x) _ (.ref y)) ?_
  unfold tryMethod
  refine wpAny_bind (special_fn X I hs (beq_iff_eq.mp hf) (wpAny_mono h (fun v s1 hv => ?_) fun _ _ e => e))
  obtain ⟨rfl, X1, lx, ⟨oy, od2, Iy⟩, back⟩ := hv
  refine wpAny_pure ?_
  refine wpAny_bind (lx.here (wpAny_bind (Iy.type.here ?_)))
  simp only [nb, Bool.false_eq_true, if_false]
  refine wpAny_bind (wpAny_bind (special_fn X1 Iy hg (beq_iff_eq.mp hgf) (wpAny_mono back (fun v s2 hv => ?_) fun _ _ e => e)))
  cases v <;> first | exact hv.elim | exact wpAny_pure (wpAny_bind (wpAny_rule (wpAny_pure (wpAny_pure hv))))
end
/-- a def's own special method that answers NotImplemented -/
def OwnNi (P : Program) (w : World) (K : PySem.W.Frag) (mg : Str → Option Value) (base : Heap) (k : Nat) (C : Addr) (m : Str) (sp : List V → Hp → (Hp → Prop) → Prop) : Prop :=
  ∃ (f : Addr) (fd : FuncData) (ps : List Str), FnNi P w K mg base k f fd ps sp ∧ PySem.W.findIn K (.ref C) m = some (some (.ref f)) ∧ PySem.W.isFn K (.ref f) = true ∧ Binds K fd ps []
section
variable {X : Cx} {k j : Nat}
/-- a call of such a def -/
theorem ask_ni {f : Addr} {fd : FuncData} {ps : List Str} {sp : List V → Hp → (Hp → Prop) → Prop} {pins : List (Addr × Obj)} {σ : L2.St} {H : Hp} {s : Shared} {vs : List V} {us : List Value} {Q : Hp → Prop} (F : FnNi X.prog X.w X.K X.mg X.base k f fd ps sp) (B : Binds X.K fd ps []) (hr : Room k X.A)
    (I : Inv X pins σ H s) (r : Vals vs us) (h : sp vs H Q) : wpAny (model X.prog X.w) X.A (call (.ref f) us) (fun v s' => v = .notImplemented ∧ ∃ H', Inv X pins σ H' s' ∧ Q H') X.xe s := by
  have len : us.length = ps.length := by rw [← r.length]; exact F.len _ _ _ h
  have given := B s us I.kIn (by rw [List.append_nil]; exact len)
  rw [List.append_nil] at given
  refine wpAny_call (codeAny_mono (F.run X.A X.stack s H ⟨us, []⟩ us vs Q hr I.env0 given r h) fun out s1 z => ?_)
  obtain ⟨rfl, z⟩ := z
  obtain ⟨v, H', I', rv, q⟩ := I.after z
  exact ⟨rfl, H', I', q⟩
/-- x + y: x's __add__ answers NotImplemented, y's __radd__ is asked -/
def rAddR (C D : Addr) (spn : List V → Hp → (Hp → Prop) → Prop) (sp : Sp) (E : XK) : R2 := fun x y H Q => ∃ a b dx dy fs gs, x = .ref a ∧ y = .ref b ∧ H a = some (.ins C dx fs) ∧ H b = some (.ins D dy gs) ∧ spn [x, y] H (fun H' => H' = H) ∧ sp [y, x] H Q E
theorem op_addR {x y : Str} {spn : List V → Hp → (Hp → Prop) → Prop} {sp : Sp} {E : XK} (two : twoB X.K x y = true) (n : OwnNi X.prog X.w X.K X.mg X.base k (He.ga X.K x) "__add__" spn) (c : OwnX X.prog X.w X.K X.mg X.base k (He.ga X.K y) "__radd__" sp) (hx : Passes (L2.CX X.prog X.w) X E) (hr : Room j X.A) (hk : k ≤ j := by omega) :
    OpR X (binaryOp .Add) (rAddR (He.ga X.K x) (He.ga X.K y) spn sp E) := by
  rintro pins s σ H _ _ v u Q I rx ry ⟨a, b, dx, dy, fs, gs, rfl, rfl, ha, hb, hn, hsp⟩
  obtain ⟨f, fd, ps, F, hs, hf, B⟩ := n
  obtain ⟨g, gd, qs, G, hgs, hgf, Bg⟩ := c
  obtain ⟨t1, two⟩ := He.ba two
  obtain ⟨t2, two⟩ := He.ba two
  obtain ⟨t3, two⟩ := He.ba two
  obtain ⟨t4, two⟩ := He.ba two
  obtain ⟨t5, two⟩ := He.ba two
  obtain ⟨t6, two⟩ := He.ba two
  obtain ⟨t7, t8⟩ := He.ba two
  obtain ⟨rC, hrC, kC⟩ := radd_of t7
  obtain ⟨rD, hrD, kD⟩ := radd_of t8
  cases rx
  cases ry
  obtain ⟨_, ia, _⟩ := ins_get I.hok ha
  obtain ⟨_, ib, _⟩ := ins_get I.hok hb
  obtain ⟨_, la, _⟩ := ia.look
  obtain ⟨_, lb, _⟩ := ib.look
  refine binop_refl I.fr.choose_spec I.ok.mod.kin la lb.type (of_decide_eq_true t3) t1 t2 hs hf (spcB_ok t5).1 hrC hrD kC kD hgs hgf (of_decide_eq_true t6) ?_
  refine thn (ask_ni (vs := [.ref a, .ref b]) F B (hr.mono hk) I (.cons rfl (.cons rfl .nil)) hn) fun r s1 z => ?_
  obtain ⟨rfl, H', I1, rfl⟩ := z
  obtain ⟨_, ia1, _⟩ := ins_get I1.hok ha
  obtain ⟨_, ib1, _⟩ := ins_get I1.hok hb
  obtain ⟨_, la1, _⟩ := ia1.look
  obtain ⟨_, lb1, _⟩ := ib1.look
  refine ⟨rfl, I1.kIn, la1.type, ⟨_, _, lb1⟩, ?_⟩
  refine thn (run_fn (vs := [.ref b, .ref a]) (dvs := []) (ds := []) G (hr.mono hk) Bg .nil hx I1 (.cons rfl (.cons rfl .nil)) hsp) fun r s2 z => ?_
  obtain ⟨z, H2, I2, rz, q⟩ := z
  have some := not_ni rz
  cases r <;> first | exact absurd rfl some | exact ⟨z, H2, I2, rz, q⟩
end
end RM

set_option Elab.async false
set_option linter.all false
set_option maxRecDepth 100000
set_option maxHeartbeats 2000000
/-! x[k] = v, x of an own class with __setitem__ -/
namespace RM
open PySem PySem.Spec PyProof.Rows L2
section
variable {X : Cx} {CX : CXT} {k j : Nat} {C : Addr} {sp : Sp} {E : XK}
def rSetO (C : Addr) (sp : Sp) (E : XK) : V → V → V → Hp → (Hp → Prop) → Prop := fun o i v H Q => ∃ a dx fs, o = .ref a ∧ H a = some (.ins C dx fs) ∧ sp [o, i, v] H (fun _ H' => Q H') E
theorem set_own (hq : PySem.W.noSeq X.K C = true) (c : OwnC X.prog X.w X.K X.mg X.base CX k C "__setitem__" sp) (hx : Passes CX X E) (hr : Room j X.A) (hk : k ≤ j := by omega) : PSet X (rSetO C sp E) := by
  rintro pins s σ H _ i v ov iv u Q I ro ri rv ⟨a, dx, fs, rfl, ha, h⟩
  obtain ⟨f, fd, ps, F, hs, hf, B, hn⟩ := c
  cases ro
  obtain ⟨_, ia, _⟩ := ins_get I.hok ha
  obtain ⟨_, la, _⟩ := ia.look
  have XK := I.kIn
  unfold setItem sequenceKey
  refine wpAny_holding (wpAny_bind (wpAny_bind (la.type.here ?_)))
  refine wpAny_bind ((PySem.W.anyM_none XK hq).here ?_)
  rw [if_pos (show (!false) = true from rfl)]
  refine wpAny_pure (wpAny_bind (PySem.W.special_fn XK la hs (beq_iff_eq.mp hf) (thn (run_fn (vs := [.ref a, i, v]) (dvs := []) (ds := []) F (hr.mono hk) B .nil hx I (.cons rfl (.cons ri (.cons rv .nil))) h) fun r s1 z => ?_)))
  obtain ⟨z, H1, I1, rz, q⟩ := z
  exact wpAny_pure ⟨H1, I1, q⟩
end
end RM

set_option Elab.async false
set_option linter.all false
set_option maxRecDepth 100000
set_option maxHeartbeats 2000000
/-! own special methods within a try: what is let out is told at the slots -/
namespace RM
open PySem PySem.Spec PyProof.Rows L2
section
variable {X : Cx} {CX : CXT} {W : WX} {k j : Nat} {C : Addr} {sp : Sp} {E : XK} {a b o i : Expr} {ta tb to ti te : TE} {pos : Pos}
/-- an operation at the slots σ -/
def OpAt (X : Cx) (σ : L2.St) (f : Value → Value → Sem Value) (r : R2) : Prop := ∀ (pins : List (Addr × Obj)) (s : Shared) (H : Hp) (x y : V) (v u : Value) (Q : VK), Inv X pins σ H s → RelV x v → RelV y u → r x y H Q →
    wpAny (model X.prog X.w) X.A (f v u) (fun z s1 => EP X pins σ Q z s1) X.xe s
def tOpS (r : L2.St → R2) (ta tb : TE) : TE := fun σ H Q => ta σ H fun x H1 => tb σ H1 fun y H2 => r σ x y H2 Q
theorem pe_opS {op : Operator} {r : L2.St → R2} (ho : ∀ σ, OpAt X σ (binaryOp op) (r σ)) (ha : PE X a ta) (hb : PE X b tb) : PE X (.BinOp a op b pos) (tOpS r ta tb) := by
  refine ⟨fun pins s σ H Q I h => ?_⟩
  exact wpAny_BinOp (binT ha hb I h fun v u s2 x y H2 I2 rx ry q => ho σ pins s2 H2 x y v u Q I2 rx ry q)
theorem op_addGS {x y : Str} (tk : Takes X W) (two : twoB X.K x y = true) (c : OwnX X.prog X.w X.K X.mg X.base k (He.ga X.K x) "__add__" sp) (hr : Room j X.A) (σ : L2.St) (hk : k ≤ j := by omega) : OpAt X σ (binaryOp .Add) (rAddX (He.ga X.K x) (He.ga X.K y) sp (WE W σ)) := by
  rintro pins s H _ _ v u Q I rx ry ⟨a, b, dx, dy, fs, gs, rfl, rfl, ha, hb, hsp⟩
  obtain ⟨f, fd, ps, F, hs, hf, B⟩ := c
  obtain ⟨t1, two⟩ := He.ba two
  obtain ⟨t2, two⟩ := He.ba two
  obtain ⟨t3, two⟩ := He.ba two
  obtain ⟨t4, two⟩ := He.ba two
  obtain ⟨t5, two⟩ := He.ba two
  obtain ⟨t6, two⟩ := He.ba two
  obtain ⟨t7, t8⟩ := He.ba two
  obtain ⟨rC, hrC, kC⟩ := radd_of t7
  obtain ⟨rD, hrD, kD⟩ := radd_of t8
  cases rx
  cases ry
  obtain ⟨_, ia, _⟩ := ins_get I.hok ha
  obtain ⟨_, ib, _⟩ := ins_get I.hok hb
  obtain ⟨_, la, _⟩ := ia.look
  obtain ⟨_, lb, _⟩ := ib.look
  refine binop_two I.fr.choose_spec I.ok.mod.kin la lb.type (of_decide_eq_true t3) t1 t2 hs hf (spcB_ok t5).1 hrC hrD kC kD (of_decide_eq_true t6) ?_
  refine thn (run_fnS (vs := [.ref a, .ref b]) F (hr.mono hk) B (passAt tk σ) I (.cons rfl (.cons rfl .nil)) hsp) fun r s1 z => ?_
  obtain ⟨z, H1, I1, rz, q⟩ := z
  have some := not_ni rz
  cases r <;> first | exact absurd rfl some | exact ⟨z, H1, I1, rz, q⟩
theorem op_addRS {k2 : Nat} {x y : Str} {spn : List V → Hp → (Hp → Prop) → Prop} (tk : Takes X W) (two : twoB X.K x y = true) (n : OwnNi X.prog X.w X.K X.mg X.base k2 (He.ga X.K x) "__add__" spn) (c : OwnX X.prog X.w X.K X.mg X.base k (He.ga X.K y) "__radd__" sp) (hr : Room j X.A) (σ : L2.St) (hk : k ≤ j := by omega) (hk2 : k2 ≤ j := by omega) :
    OpAt X σ (binaryOp .Add) (rAddR (He.ga X.K x) (He.ga X.K y) spn sp (WE W σ)) := by
  rintro pins s H _ _ v u Q I rx ry ⟨a, b, dx, dy, fs, gs, rfl, rfl, ha, hb, hn, hsp⟩
  obtain ⟨f, fd, ps, F, hs, hf, B⟩ := n
  obtain ⟨g, gd, qs, G, hgs, hgf, Bg⟩ := c
  obtain ⟨t1, two⟩ := He.ba two
  obtain ⟨t2, two⟩ := He.ba two
  obtain ⟨t3, two⟩ := He.ba two
  obtain ⟨t4, two⟩ := He.ba two
  obtain ⟨t5, two⟩ := He.ba two
  obtain ⟨t6, two⟩ := He.ba two
  obtain ⟨t7, t8⟩ := He.ba two
  obtain ⟨rC, hrC, kC⟩ := radd_of t7
  obtain ⟨rD, hrD, kD⟩ := radd_of t8
  cases rx
  cases ry
  obtain ⟨_, ia, _⟩ := ins_get I.hok ha
  obtain ⟨_, ib, _⟩ := ins_get I.hok hb
  obtain ⟨_, la, _⟩ := ia.look
  obtain ⟨_, lb, _⟩ := ib.look
  refine binop_refl I.fr.choose_spec I.ok.mod.kin la lb.type (of_decide_eq_true t3) t1 t2 hs hf (spcB_ok t5).1 hrC hrD kC kD hgs hgf (of_decide_eq_true t6) ?_
  refine thn (ask_ni (vs := [.ref a, .ref b]) F B (hr.mono hk2) I (.cons rfl (.cons rfl .nil)) hn) fun r s1 z => ?_
  obtain ⟨rfl, H', I1, rfl⟩ := z
  obtain ⟨_, ia1, _⟩ := ins_get I1.hok ha
  obtain ⟨_, ib1, _⟩ := ins_get I1.hok hb
  obtain ⟨_, la1, _⟩ := ia1.look
  obtain ⟨_, lb1, _⟩ := ib1.look
  refine ⟨rfl, I1.kIn, la1.type, ⟨_, _, lb1⟩, ?_⟩
  refine thn (run_fnS (vs := [.ref b, .ref a]) G (hr.mono hk) Bg (passAt tk σ) I1 (.cons rfl (.cons rfl .nil)) hsp) fun r s2 z => ?_
  obtain ⟨z, H2, I2, rz, q⟩ := z
  have some := not_ni rz
  cases r <;> first | exact absurd rfl some | exact ⟨z, H2, I2, rz, q⟩
/-- a def called one level in -/
theorem ask_in1S {f : Addr} {fd : FuncData} {ps : List Str} {pins : List (Addr × Obj)} {σ : L2.St} {H : Hp} {s : Shared} {vs : List V} {us : List Value} {Q : VK} (F : FnOk X.prog X.w X.K X.mg X.base CX k f fd ps sp) (B : Binds X.K fd ps []) (hr : Room (k + 1) X.A) (hx : PassesAt CX X σ E)
    (I : Inv X pins σ H s) (r : Vals vs us) (h : sp vs H Q E) : wpAny (model X.prog X.w) X.A.in1 (call (.ref f) us) (EP X pins σ Q) X.xe s := by
  have len : us.length = ps.length := by rw [← r.length]; exact F.len _ _ _ _ h
  have given := B s us I.kIn (by rw [List.append_nil]; exact len)
  rw [List.append_nil] at given
  refine wpAny_call (codeAny_mono (F.run X.A.in1 X.stack s H ⟨us, []⟩ us vs Q E hr.in1 I.env0.in1 given r h) fun out s1 z => ?_)
  match out, z with
  | .ok (.ret _), z => exact I.after z
  | .error e, z => exact hx pins H s e s1 I z
  | .ok .next, z => exact z.elim
  | .ok .brk, z => exact z.elim
  | .ok .cont, z => exact z.elim
/-- a[b] -/
def tGetS (C : Addr) (sp : Sp) (E : L2.St → XK) (ta tb : TE) : TE := fun σ H Q => ta σ H fun x H1 => tb σ H1 fun y H2 => ∃ a dx fs, x = .ref a ∧ H2 a = some (.ins C dx fs) ∧ sp [x, y] H2 Q (E σ)
theorem pe_getS (tk : Takes X W) (c : OwnC X.prog X.w X.K X.mg X.base (L2.CX X.prog X.w) k C "__getitem__" sp) (hr : Room j X.A) (ha : PE X a ta) (hb : PE X b tb) (hk : k + 1 ≤ j := by omega)
    (hsl : ∀ v u, subscripted b true v u = runValue (.builtin "lifetime.subscript" ⟨[v, u], []⟩) := by intro _ _; rfl) : PE X (.Subscript a b pos) (tGetS C sp (WE W) ta tb) := by
  obtain ⟨f, fd, ps, F, hs, hf, B, hn⟩ := c
  refine ⟨fun pins s σ H Q I h => ?_⟩
  refine Subscript_ (thn (ha.run pins s σ H _ I h) fun v s1 ⟨x, H1, I1, rx, h1⟩ => thn (hb.run pins s1 σ H1 _ I1 h1) fun u s2 ⟨y, H2, I2, ry, h2⟩ => ?_)
  obtain ⟨p, dx, fs, rfl, hp, h3⟩ := h2
  cases rx
  obtain ⟨_, ip, _⟩ := ins_get I2.hok hp
  obtain ⟨_, lp, _⟩ := ip.look
  exact PySem.W.sub_K I2.fr.choose_spec I2.ok.mod.kin lp hs hn hf (ask_in1S (vs := [.ref p, y]) F B (hr.mono hk) (passAt tk σ) I2 (.cons rfl (.cons ry .nil)) h3) (hsl _ _)
/-- o[i] = .. -/
def gSubS (C : Addr) (sp : Sp) (E : L2.St → XK) (to ti : TE) : TG := fun v σ H Q => to σ H fun o H1 => ti σ H1 fun i H2 => ∃ a dx fs, o = .ref a ∧ H2 a = some (.ins C dx fs) ∧ sp [o, i, v] H2 (fun _ H' => Q σ H') (E σ)
theorem pg_subS (tk : Takes X W) (ho : PE X o to) (hi : PE X i ti) (hq : PySem.W.noSeq X.K C = true) (c : OwnC X.prog X.w X.K X.mg X.base (L2.CX X.prog X.w) k C "__setitem__" sp) (hr : Room j X.A) (hk : k ≤ j := by omega)
    (steps : ∀ z, assign (.Subscript o i pos) X.env z = (do
      let ho ← holding [z] (eval o X.env); let hk ← holding [z, ho] (eval i X.env)
      standAt pos
      holding [z, ho, hk] (setItem ho hk z); release [z, ho, hk] []) := by intro _; rfl) : PG X (.Subscript o i pos) (gSubS C sp (WE W) to ti) := by
  constructor
  intro pins s σ H v u Q I r h
  rw [steps]
  refine wpAny_bind (wpAny_holding (thn (ho.run pins s σ H _ I h) ?_))
  rintro ow s1 ⟨x, H1, I1, r1, q1⟩
  refine wpAny_bind (wpAny_holding (thn (hi.run pins s1 σ H1 _ I1 q1) ?_))
  rintro iv s2 ⟨y, H2, I2, r2, ⟨p, dx, fs, rfl, hp, h3⟩⟩
  obtain ⟨f, fd, ps, F, hs, hf, B, hn⟩ := c
  cases r1
  obtain ⟨_, ia, _⟩ := ins_get I2.hok hp
  obtain ⟨_, la, _⟩ := ia.look
  have XK := I2.kIn
  have one : wpAny (model X.prog X.w) X.A (setItem (.ref p) iv u) (fun _ s' => ∃ H', Inv X pins σ H' s' ∧ Q σ H') X.xe s2 := by
    unfold setItem sequenceKey
    refine wpAny_holding (wpAny_bind (wpAny_bind (la.type.here ?_)))
    refine wpAny_bind ((PySem.W.anyM_none XK hq).here ?_)
    rw [if_pos (by rfl : (!false) = true)]
    refine wpAny_pure (wpAny_bind (PySem.W.special_fn XK la hs (beq_iff_eq.mp hf) (thn (run_fnS (vs := [.ref p, y, v]) F (hr.mono hk) B (passAt tk σ) I2 (.cons rfl (.cons r2 (.cons r .nil))) h3) fun w s3 z => ?_)))
    obtain ⟨z, H3, I3, rz, q⟩ := z
    exact wpAny_pure ⟨H3, I3, q⟩
  refine wpAny_bind (wpAny_standAt (wpAny_bind (wpAny_holding (thn one ?_))))
  rintro _ s3 ⟨HR, IR, qR⟩
  exact wpAny_release ⟨σ, HR, IR, qR⟩
/-- name += e, the name's value of an own class -/
def tAugO (i : Nat) (te : TE) (C : Addr) (sp : Sp) (E : L2.St → XK) : L2.TS := fun D σ H => ∃ x, σ[i]? = some (some x) ∧ te σ H fun y H1 => ∃ a dx fs, x = .ref a ∧ H1 a = some (.ins C dx fs) ∧ sp [x, y] H1 (fun z H2 => D.nx (σ.set i (some z)) H2) (E σ)
theorem ps_augO {i : Nat} {x : Str} {e : Expr} {te : TE} {pos' : Pos} (tk : Takes X W) (hN : X.N.Nodup) (hi : X.N[i]? = some x) (hx : Loc X.env.scope x) (he : PE X e te) (c : OwnC X.prog X.w X.K X.mg X.base (L2.CX X.prog X.w) k C "__iadd__" sp) (sf : PySem.W.selfFirst X.K C = true) (hr : Room j X.A) (hk : k ≤ j := by omega)
    (hf : X.fn x = true ∨ X.env.scope.names.lookup x = some .local := by first | exact .inl rfl | exact .inr rfl | assumption) : PS X (.AugAssign (.Name x pos') .Add e pos) (tAugO i te C sp (WE W)) := by
  refine ⟨fun pins s σ H D I h => ?_⟩
  obtain ⟨v, e1, h⟩ := h
  obtain ⟨m, hn, hl2⟩ := I.loc
  have vis : Vis X.env.scope x := hx.elim Or.inl fun k => Or.inr (Or.inl k)
  obtain ⟨u, r, l⟩ := hl2 i x v hi e1 vis
  apply wpAny_AugAssign_Name
  have go : wpAny (model X.prog X.w) X.A (eval e X.env) (fun w s₂ => wpAny (model X.prog X.w) X.A (inplaceOp .Add u w) (fun r s₃ => wpAny (model X.prog X.w) X.A (storeName X.env x r) (fun _ => SP X pins D .next) X.xe s₃) X.xe s₂) X.xe s := by
    refine thn (he.run pins s σ H _ I h) ?_
    rintro w s1 ⟨y, H1, I1, r1, ⟨p, dx, fs, rfl, hp, h3⟩⟩
    obtain ⟨f, fd, ps, F, hs, hfn, B, _⟩ := c
    cases r
    obtain ⟨_, ia, _⟩ := ins_get I1.hok hp
    obtain ⟨_, la, _⟩ := ia.look
    refine PySem.W.ksp_inplace I1.fr.choose_spec I1.ok.mod.kin la sf hs hfn (thn (run_fnS (vs := [.ref p, y]) F (hr.mono hk) B (passAt tk σ) I1 (.cons rfl (.cons r1 .nil)) h3) fun w2 s2 z => ?_)
    obtain ⟨z, H2, I2, rz, q⟩ := z
    have nn := not_ni rz
    cases w2 <;> first | exact absurd rfl nn | exact store_ok I2 hN hi hx rz (fun s3 I3 => ⟨_, H2, I3, q⟩) hf
  obtain ⟨lk, at_⟩ | ⟨hk, _, cl, at_⟩ := l
  · exact wpAny_loadName_local I.ok.kind lk hn at_ go
  · rcases hk with hk | hk
    · exact wpAny_loadName_cell I.ok.kind hk cl at_ go
    · rcases hx with k | k
      · have z : X.env.scope.names.lookup x = some .free := hk
        rw [k] at z; cases z
      · have z : X.env.scope.names.lookup x = some .free := hk
        rw [k] at z; cases z
end
end RM

set_option Elab.async false
set_option linter.all false
set_option maxRecDepth 100000
set_option maxHeartbeats 4000000
set_option pp.maxSteps 600
set_option pp.deepTerms false
namespace RM
open PySem PySem.Spec PyProof.Rows L2
section
variable {P : Program} {w : World} {K : PySem.W.Frag} {mg : Str → Option Value} {base : Heap}
def spSecond (K : PySem.W.Frag) : Sp := fun vs H Q E => match vs with
  | [x, y] => ∃ (t : Nat) (b : Addr), x = .int t ∧ y = .ref b ∧ SurAt K H b w1 ∧ 6 ≤ t ∧ t < 12 ∧ OutE K H E t
  | _ => False
theorem sc_law_second : FnScope ["_law_at", "_law_place"] ["_law_at", "_law_place"] (defScope s_law_second) := ⟨rfl, rfl, rfl, by decide +kernel, rfl, by decide +kernel, by decide +kernel⟩
theorem c_law_second (T : Top w K mg) : Cal P w K mg base (L2.CX P w) 120 "_law_second" (spSecond K) := by
  refine cal_X (f_law_second T) (g_law_second T) sc_law_second (fun _ _ _ _ _ _ us hl => match us, hl with | [_, _], _ => rfl) (fun vs H Q E h => match vs, h with | [_, _], _ => rfl) (fun cdv A outer s H vs Q E hr h => ?_)
  match vs, h with
  | [x, y], h =>
  obtain ⟨t, b, rfl, rfl, sb, t6, t12, qE⟩ := h
  obtain ⟨⟨db, pb, hb, hpb, okb, srb⟩, lb1, lb4⟩ := id sb
  refine ⟨_, (pss_cons (ps_if (pt_cmpR op_eq (pv 0) pe_int (nomark _))
      (pss_one (ps_asg pe_int (pg_subS (takes_of rfl rfl rfl rfl) (pv 1) pe_str (nsq_Surroundings T) (o_Surroundings_setitem T) hr)))
      pss_nil)
    (pss_cons (ps_if (pt_cmpR op_eq (pv 0) pe_int (nomark _))
      (pss_one (ps_asg pe_int (pg_subS (takes_of rfl rfl rfl rfl) (pv 1) pe_str (nsq_Surroundings T) (o_Surroundings_setitem T) hr)))
      pss_nil)
    (pss_cons (ps_if (pt_cmpR op_eq (pv 0) pe_int (nomark _))
      (pss_one (ps_expr (pmkX (takes_of rfl rfl rfl rfl) (cg_Program_init T) hr (pa_cons (pe_lst (pa_cons (pe_tup (pa_cons pe_str pa_nil)) pa_nil)) pa_nil))))
      pss_nil)
    (pss_cons (ps_if (pt_cmpR op_eq (pv 0) pe_int (nomark _))
      (pss_one (ps_expr (pcX (takes_of rfl rfl rfl rfl) (c_run T) hr (pa_cons (pmk (c_Program_init T) hr (pa_cons (pe_lst pa_nil) pa_nil)) (pa_cons (pv 1) (pa_cons (pe_lst pa_nil) (pa_cons (pe_lst (pa_cons (pe_lst (pa_cons pe_int pa_nil)) pa_nil)) pa_nil)))))))
      pss_nil)
    (pss_cons (ps_if (pt_cmpR op_eq (pv 0) pe_int (nomark _))
      (pss_one (ps_expr (pcX (takes_of rfl rfl rfl rfl) (c_read T) hr (pa_cons pe_str pa_nil))))
      pss_nil)
    (pss_one (ps_if (pt_cmpR op_eq (pv 0) pe_int (nomark _))
      (pss_one (ps_expr (pmtX (takes_of rfl rfl rfl rfl) (c_Desk_forbid T) hr (pmk (c_Desk_init T) hr (pa_cons (pv 1) pa_nil)) (pa_cons pe_int pa_nil))))
      pss_nil))))))), ?_⟩
  refine ⟨_, rfl, rfl, _, rfl, ?_⟩
  by_cases c6 : t = 6
  case pos =>
    subst c6
    refine ifT (bool_if (n := 6)) ?_
    have hka : ("a" : Str) ∈ wKeys w1 := by decide +kernel
    exact ⟨_, rfl, b, db, _, rfl, hb, b, db, pb, w1, "a", rfl, rfl, hb, hpb, lb4, (fun z => absurd hka z), (fun _ => .inr ⟨.inl ⟨100, rfl, rfl⟩, fun e H' e1 hd => out_s qE e1 hd⟩)⟩
  refine ifF (bool_if.trans (decide_eq_false c6)) ?_
  refine ⟨_, rfl, rfl, _, rfl, ?_⟩
  by_cases c7 : t = 7
  case pos =>
    subst c7
    refine ifT (bool_if (n := 7)) ?_
    have hkb : ("b" : Str) ∉ wKeys w1 := by decide +kernel
    exact ⟨_, rfl, b, db, _, rfl, hb, b, db, pb, w1, "b", rfl, rfl, hb, hpb, lb4, (fun _ e H' e1 hd => out_s qE e1 hd), (fun z => absurd z hkb)⟩
  refine ifF (bool_if.trans (decide_eq_false c7)) ?_
  refine ⟨_, rfl, rfl, _, rfl, ?_⟩
  by_cases c8 : t = 8
  case pos =>
    subst c8
    refine ifT (bool_if (n := 8)) ?_
    refine ⟨(by show 1 ≤ sizeLine; decide), fun t1 m1 => ⟨(by show 1 ≤ sizeLine; decide), fun l1 n1 => ?_⟩⟩
    have s1 := smNew (smNew1 m1 (.tup [.str "loop"])) n1 (.lst [.ref t1])
    have d1 : Dp K (upd (upd H t1 (.tup [.str "loop"])) l1 (.lst [.ref t1])) (.ref l1) (.list [.tuple [.str "loop"]]) :=
      .lst (SqL.of upd_same) (.cons (.tup (SqT.of ((smNew1 n1 (.lst [.ref t1])) _ _ upd_same)) (.cons (.str _) .nil)) .nil)
    intro x dx hx hdx hne
    have mI := mk_in (C := He.ga K "Program") hx hdx hne
    refine ⟨x, dx, rfl, upd_same, .inr (.inl ⟨true, .odd [] (.tuple [.str "loop"]) [], Dp.keep mI d1, ⟨rfl, ?_⟩, by decide, fun d H' v hd off _ => ?_⟩)⟩
    · exact .inl (.loop [])
    · exact out_s (qE) (s1.trans (mk_sm hx hdx off)) hd
  refine ifF (bool_if.trans (decide_eq_false c8)) ?_
  refine ⟨_, rfl, rfl, _, rfl, ?_⟩
  by_cases c9 : t = 9
  case pos =>
    subst c9
    refine ifT (bool_if (n := 9)) ?_
    refine ⟨(by show 0 ≤ sizeLine; decide), fun l hl => ?_⟩
    have s1 : Same H (upd H l (.lst [])) := smNew1 hl _
    intro x dx hx hdx hne
    have mI := mk_in (C := He.ga K "Program") hx hdx hne
    refine ⟨x, dx, true, [], rfl, upd_same, .lst (SqL.of (mI _ _ (upd_same : (upd H l (.lst [])) l = _))) .nil, rfl, by decide, by decide, fun H1 off pr => ⟨rfl, ?_⟩⟩
    have s2 := s1.trans (mk_sm hx hdx off)
    refine ⟨_, rfl, (by show 0 ≤ sizeLine; decide), fun l2 h2 => ⟨(by show 1 ≤ sizeLine; decide), fun l3 h3 => ⟨(by show 1 ≤ sizeLine; decide), fun l4 h4 => ?_⟩⟩⟩
    have s5 := smNew (smNew (smNew1 h2 (.lst [])) h3 (.lst [.int 0])) h4 (.lst [.ref l3])
    have hl2 : (upd (upd (upd H1 l2 (.lst [])) l3 (.lst [.int 0])) l4 (.lst [.ref l3])) l2 = some (.lst []) := (smNew (smNew1 h3 (.lst [.int 0])) h4 (.lst [.ref l3])) _ _ upd_same
    have hl3 : (upd (upd (upd H1 l2 (.lst [])) l3 (.lst [.int 0])) l4 (.lst [.ref l3])) l3 = some (.lst [.int 0]) := (smNew1 h4 (.lst [.ref l3])) _ _ upd_same
    refine ⟨x, [], b, w1, l2, [], [], l4, [l3], [[0]], rfl, rfl, rfl, rfl, pr.keep s5, rfl, by decide, by decide, sb.keep (s2.trans s5), .inl (SqL.of hl2), .nil, .inl (SqL.of upd_same), .cons (.inl (SqL.of hl3)) .nil, by decide, fun ks hk => ?_⟩
    have hk0 : ks = [] := List.eq_nil_iff_forall_not_mem.mpr fun k hm => by
      have : k ∈ ([] : List Str) := (hk.2.2 k).mp hm
      cases this
    subst hk0
    have off0 : offP ([] : List WM).length [[0]] = some 0 := by decide +kernel
    refine ⟨fun _ z => (by rw [off0] at z; cases z), fun k z => (by cases z), fun _ i z d H' e hd => ?_⟩
    exact out_s qE ((s2.trans s5).trans e) hd
  refine ifF (bool_if.trans (decide_eq_false c9)) ?_
  refine ⟨_, rfl, rfl, _, rfl, ?_⟩
  by_cases c10 : t = 10
  case pos =>
    subst c10
    refine ifT (bool_if (n := 10)) ?_
    exact ⟨rfl, fun d H' e hd => out_s qE e hd⟩
  refine ifF (bool_if.trans (decide_eq_false c10)) ?_
  refine ⟨_, rfl, rfl, _, rfl, ?_⟩
  by_cases c11 : t = 11
  case pos =>
    subst c11
    refine ifT (bool_if (n := 11)) ?_
    refine ⟨_, rfl, ?_⟩
    intro x dx hx hdx hne
    have mI := mk_in (C := He.ga K "Desk") hx hdx hne
    refine ⟨x, dx, b, rfl, rfl, upd_same, sb.keep mI, fun H1 off da => ⟨rfl, ?_⟩⟩
    obtain ⟨d5, t5, l5, k0, k1, t0, h1, h2, h3, h4⟩ := id da
    refine ⟨x, d5, _, rfl, h1, rfl, x, rfl, rfl, da, fun d H' e hd => ?_⟩
    exact out_s qE ((mk_sm hx hdx off).trans e) hd
  omega
end
end RM

set_option Elab.async false
set_option linter.all false
set_option maxRecDepth 100000
set_option maxHeartbeats 4000000
/-! a caught exception handed to a def that asks isinstance of it -/
namespace RM
open PySem PySem.Spec PySem.Calls PyProof.Rows L2 PySem.W
section
variable {prog : Program} {w : World} {A : Around} {E : Value → Shared → Prop} {s : Shared} {K : Frag} {x D : Addr} {ox : Obj} {od : Option Obj}
theorem clsK (C : ExcC K D) : ∃ cd, clsIn K D = some cd := let ⟨cd, h, _⟩ := any_some C.hd; ⟨cd, h⟩
/-- e.__class__, whether e has a dict or none -/
theorem exc_cls (C : ExcC K D) {Q : Option Value → Shared → Prop} (X : K.In s.heap) (I : InstAt s.heap x ox D od) (h : Q (some (.ref D)) { s with toks := s.toks + 1 }) : wpAny (model prog w) A (getAttr? (.ref x) "__class__") Q E s := by
  have hf : findObj K D od "__class__" = some (.bind (.builtin "getset_descriptor.__get__") (.builtin "object.__class__")) := by
    obtain ⟨cd, hc⟩ := clsK C
    unfold findObj
    rw [hc, Option.bind_some, C.ha, Option.bind_some]
    simp [C.hn, C.ht]
  obtain ⟨hp, g, d, t, os⟩ := s
  have T0 := I.type (M := model prog w)
  have T1 := looks_findIn (M := model prog w) X C.hg
  have T2 := looks_findIn (M := model prog w) X C.hk
  have T3 := looks_find (M := model prog w) X I hf
  have isB : Looks (model prog w) hp (isInstance (.ref x) (.type "BaseException")) true := T0.andThen (looks_subIn X C.hs)
  have own : ¬ (onTheHeap (Value.ref D) && Value.builtin "BaseException.__getattribute__" == Value.builtin "object.__getattribute__") = true := by
    rw [show (Value.builtin "BaseException.__getattribute__" == Value.builtin "object.__getattribute__") = false by decide +kernel, Bool.and_false]
    exact Bool.false_ne_true
  unfold getAttr? getAttrBy? getAttrBy
  refine wpAny_bind (wpAny_mkText (wpAny_bind (wpAny_attempt (wpAny_holding (wpAny_bind (T0.at (wpAny_bind (T1.at ?_))))))))
  show wpAny _ _ (if (onTheHeap (Value.ref D) && Value.builtin "BaseException.__getattribute__" == Value.builtin "object.__getattribute__") = true then _ else _) _ _ _
  rw [if_neg own]
  unfold getAttrByItsOwn hookBefore
  refine wpAny_bind ?_
  rw [if_pos (show onTheHeap (Value.ref D) = true from rfl)]
  refine T2.at (wpAny_bind (wpAny_attempt (wpAny_holding ?_)))
  unfold callGetattribute
  rw [if_neg (show ¬ (false && onTheHeap (Value.builtin "BaseException.__getattribute__")) = true from Bool.false_ne_true)]
  unfold boundAndCalled
  rw [PySem.F.excAttr_ValueError.ga.bind (.ref x)]
  refine wpAny_bind (wpAny_pure ?_)
  show wpAny _ _ (call (.builtin "BaseException.__getattribute__") [.ref x, .str "__class__" t]) _ _ _
  refine wpAny_call (codeAny_call_builtin PySem.F.excAttr_ValueError.ga.plain PySem.F.entry_bexc_ga (@check_slot (model prog w) _ _ ⟨hp, g, d, t + 1, os⟩ "BaseException.__getattribute__" "BaseException" "__getattribute__" (.ref x) [.str "__class__" t] [] _ (by decide +kernel) (by decide +kernel) isB (PySem.F.args_bexc_ga (.ref x) (.str "__class__" t)) ?_))
  unfold Builtin.«object.__getattribute__»
  refine wpAny_bind (wpAny_of_eq (a := ((Value.ref x : Value), [Value.str "__class__" t])) (by first | rfl | (simp only [slotArgs]; rfl)) (wpAny_bind (wpAny_pure (wpAny_bind (T0.at (wpAny_bind (T3.at ?_)))))))
  show wpAny _ _ (holding [Value.builtin "object.__class__"] (call (.builtin "getset_descriptor.__get__") [.builtin "object.__class__", .ref x, .ref D]) >>= ret) _ _ _
  refine wpAny_bind (wpAny_holding (wpAny_call (class_get (s := ⟨hp, g, d, t + 1, os⟩) (ox := ox) (od := od) X I C.hm (wpAny_pure ?_))))
  show wpAny _ _ (handedOut (.ref D)) _ _ _
  rw [handedOut_of (v := .ref D) rfl]
  first
    | exact wpAny_pure (wpAny_pure h)
    | exact wpAny_pure h
    | exact wpAny_pure (wpAny_bind (wpAny_pure (wpAny_pure h)))
theorem kitx_pin (C : ExcC K D) : KitX K (.ref x) (.ref D) (fun h => InstAt h x ox D od) where
  ty := fun _ _ _ I => I.type
  it := fun _ _ X _ => by
    obtain ⟨cd, hc⟩ := clsK C
    unfold clsIn at hc
    split at hc
    · rename_i ho
      intro A' Q' E' s' k q
      unfold isType loadHead
      exact wpAny_bind (wpAny_loadPart (k _ _ (X _ _ ho)) (wpAny_pure q))
    · cases hc
  ne := (handS_kitx_exc (x := x) (ox := ox) C.hg C.hk C.hs C.hd C.ha C.hn C.ht C.hm).ne
  ca := fun X I k => exc_cls C X I k
end
/-- isinstance(e, c), e the pinned exception at a -/
def rIsP (K : Frag) (a : Addr) (D : Addr) (d : Option Addr) : List V → Hp → VK → Prop := fun xs H Q => ∃ (c : V) (cv : Value) (b : Bool), xs = [.ref a, c] ∧ ClsV c cv ∧ kitOne K (.ref D) cv = some b ∧ (∀ dx, d = some dx → ∃ fs, H dx = some (.xd fs)) ∧ Q (.bl b) H
theorem call_isP {X : Cx} {a D : Addr} {d : Option Addr} {oe : Obj} (C : ExcC X.K D) (hz : Zc (.ref D) d oe) (hf : ∃ vs, oe.data = .fields vs) (hp : (a, oe) ∈ X.pn) : CallR X (.builtin "isinstance") (rIsP X.K a D d) := by
  intro pins s σ H xs us Q I r h
  obtain ⟨c, cv, b, rfl, hc, e, hd, q⟩ := h
  obtain ⟨u1, u2, rfl, r1, r2⟩ := vals2 r
  cases (show u1 = Value.ref a from r1)
  have ec := hc.eq r2
  subst ec
  obtain ⟨hget, _⟩ := I.pin (a, oe) (List.mem_append_left _ hp)
  obtain ⟨vs, hv⟩ := hf
  have J : ∃ od, InstAt s.heap a oe D od := by
    obtain ⟨oc, odd, oda, osl⟩ := oe
    obtain ⟨h1, h2⟩ := hz
    dsimp only at h1 h2 hv
    subst h1 h2 hv
    cases odd with
    | none => exact ⟨none, hget, rfl, rfl, trivial⟩
    | some dx =>
      obtain ⟨fs, hfs⟩ := hd dx rfl
      obtain ⟨mA, ⟨o, _, _, ho, _⟩, _⟩ := I.hok dx _ hfs
      exact ⟨some o, hget, rfl, rfl, ho⟩
  obtain ⟨od, J⟩ := J
  exact kia_one (kitx_pin C) I.kIn J e (fun z => nomatch z) fun tk => ⟨.bl b, H, I.kept (t' := tk) fun _ _ z => z, rfl, q⟩
end RM

set_option Elab.async false
set_option linter.all false
set_option maxRecDepth 100000
set_option maxHeartbeats 4000000
/-! a def that is called in an except suite with the exception that the suite holds -/
namespace RM
open PySem PySem.Spec PyProof.Rows L2 L2H
/-- what is asked, what is promised: a the exception, cls its class, d its dict -/
abbrev SpP := Addr → Value → Option Addr → Hp → VK → Prop
structure FnPin (P : Program) (w : World) (K : PySem.W.Frag) (mg : Str → Option Value) (base : Heap) (k : Nat) (f : Addr) (fd : FuncData) (ps : List Str) (sp : SpP) : Prop where
  one : ps.length = 1
  run : ∀ (A : Around) (outer : List Env) (s : Shared) (H : Hp) (args : Args) (a : Addr) (oe : Obj) (cls : Value) (d : Option Addr) (Q : VK), RoomH k A → PinOk outer H s (a, oe) → Env0 P w K mg base A outer s H → BindsTo s fd args (ps.zip [.ref a]) →
    Zc cls d oe → (∃ vs, oe.data = .fields vs) → sp a cls d H Q → codeAny (model P w) A (.call (.ref f) args) (CR CX0 outer P w H s Q E0) s
theorem fn_pin {P : Program} {w : World} {K : PySem.W.Frag} {mg : Str → Option Value} {base : Heap} {k : Nat} {f : Addr} {name qual : Str} {params : Arguments} {body : List Stmt} {scope : Scope} {N ps : List Str} {fd : FuncData} {sp : SpP}
    (F : FunD K name qual params body scope [] [] f fd) (S : FnScope N ps scope) (one : ps.length = 1)
    (hbody : ∀ (cdv : Value) (A : Around) (outer : List Env) (s : Shared) (H : Hp) (a : Addr) (oe : Obj) (cls : Value) (d : Option Addr) (Q : VK), RoomH k (A.deeper (envOfC qual scope s.heap.objs.size f cdv)) → Zc cls d oe → (∃ vs, oe.data = .fields vs) → sp a cls d H Q →
      ∃ t, PSs (cxH CX0 P w K mg base N qual scope f cdv A outer s H E0 (a, oe)) body t ∧ t { nx := fun _ H' => Q .non H', rt := Q } (L2.start N [.ref a]) H) :
    FnPin P w K mg base (k + 1) f fd ps sp := by
  obtain ⟨oc, od, dV, kV, doc, pm, an, cdv, ct, osl, rfl, here, code, _, _⟩ := F.ex
  refine ⟨one, fun A outer s H args a oe cls d Q hr hpin e0 hb hz hf hsp => ?_⟩
  have rv : Vals [V.ref a] [Value.ref a] := .cons rfl .nil
  have KX : K.In s.heap := e0.mod.kin.keeps (fun b o z => (e0.bs b o z).1)
  have free : s.heap.NoLimit := e0.mod.nolimit.keeps (fun b o z => (e0.bs b o z).1)
  have kinds : ∀ y ∈ ps.zip [Value.ref a], scope.names.lookup y.1 = some .local ∨ (scope.names.lookup y.1 = some .cell ∧ ((cellsFrom (s.heap.objs.size + 1) scope.names []).lookup y.1).isSome = true) := by
    rintro ⟨n, v⟩ hy
    exact (S.par n (List.of_mem_zip hy).1).imp id fun z => ⟨z, PySem.W.cellsFrom_some _ _ _ (Or.inl z)⟩
  apply codeAny_call_function hr.depth (KX _ _ here) rfl S.co S.gen rfl (PySem.W.codeRec_of KX code) (hb _ _ _ _ ?_)
  apply wpAny_newFunctionEnv_cells S.kind kinds
  intro env he s1 x
  subst he
  apply And.intro (free.keeps x.toInCall.keep)
  refine codeAny_func ?_
  have I : Inv (cxH CX0 P w K mg base N qual scope f cdv A outer s H E0 (a, oe)) [] (L2.start N [.ref a]) H s1 := inv_startH S hpin e0 (by rw [one]; rfl) rv x
  obtain ⟨t, ht, hq⟩ := hbody cdv A outer s H a oe cls d Q (hr.deeper _) hz hf hsp
  refine wpAny_mono (ht.run [] s1 _ H _ I hq) (fun fl s' hs => ?_) fun e s' hs => ?_
  · cases fl with
    | ret u => obtain ⟨v, σ', H', J, r, q⟩ := hs; exact ⟨v, H', J.os, J.bare, J.base, J.hok, r, q⟩
    | next => obtain ⟨σ', H', J, q⟩ := hs; exact ⟨V.non, H', J.os, J.bare, J.base, J.hok, rfl, q⟩
    | brk => exact hs.choose_spec.choose_spec.2.elim
    | cont => exact hs.choose_spec.choose_spec.2.elim
  · exact wpAny_mono hs (fun _ _ h => h.elim) fun _ _ h => h.elim
def PinC (P : Program) (w : World) (K : PySem.W.Frag) (mg : Str → Option Value) (base : Heap) (k : Nat) (x : Str) (sp : SpP) : Prop :=
  ∃ (f : Addr) (fd : FuncData) (ps : List Str), FnPin P w K mg base k f fd ps sp ∧ mg x = some (.ref f) ∧ PySem.W.keepIn K (.ref f) = true ∧ Binds K fd ps []
section
variable {P : Program} {w : World} {K : PySem.W.Frag} {mg : Str → Option Value} {base : Heap} {k : Nat} {x : Str} {sp : SpP}
theorem pin_c {st : Stmt} {f : Addr} {N ps : List Str} (F : ∃ fd, FunD K x x (defArgs st) (defBody st) (defScope st) [] [] f fd) (hm : mg x = some (.ref f)) (S : FnScope N ps (defScope st))
    (hb : ∀ (kV doc pm : Value) (an : Option Addr) (cdv ct : Value) (us : List Value), us.length = ps.length → bindArgs (PySem.W.fnOf x x (defArgs st) (defBody st) (defScope st) .none kV doc pm an cdv ct) ⟨us, []⟩ = pure (ps.zip us))
    (one : ps.length = 1) (h : ∀ (cdv : Value) (A : Around) (outer : List Env) (s : Shared) (H : Hp) (a : Addr) (oe : Obj) (cls : Value) (d : Option Addr) (Q : VK), RoomH k (A.deeper (envOfC x (defScope st) s.heap.objs.size f cdv)) → Zc cls d oe → (∃ vs, oe.data = .fields vs) → sp a cls d H Q →
      ∃ t, PSs (cxH CX0 P w K mg base N x (defScope st) f cdv A outer s H E0 (a, oe)) (defBody st) t ∧ t { nx := fun _ H' => Q .non H', rt := Q } (L2.start N [.ref a]) H) : PinC P w K mg base (k + 1) x sp :=
  let ⟨fd, F⟩ := F
  ⟨f, fd, ps, fn_pin F S one h, hm, F.kp, F.bindsN hb⟩
end
/-- f(e) in the suite that holds e -/
theorem pe_pin {X : Cx} {k j : Nat} {x : Str} {sp : SpP} {a : Addr} {oe : Obj} {cls : Value} {d : Option Addr} {pn : List (Addr × Obj)} {e : Expr} {te : TE} {q pos : Pos} (c : PinC X.prog X.w X.K X.mg X.base k x sp) (hr : Room j X.A) (hz : Zc cls d oe) (hf : ∃ vs, oe.data = .fields vs)
    (he : PE (X.suite a ((a, oe) :: pn)) e te) (hg : Gl X x := by rfl) (hk : k ≤ j := by omega) (hdb : (x == ("__debug__" : Str)) = false := by decide) (hs : starEach [e] X.env = [(false, eval e X.env)] := by rfl) :
    PE (X.suite a ((a, oe) :: pn)) (.Call (.Name x q) [e] [] pos) (fun σ H Q => te σ H fun v H1 => v = .ref a ∧ sp a cls d H1 Q) := by
  obtain ⟨f, fd, ps, F, hm, kp, b⟩ := c
  refine ⟨fun pins s σ H Q I h => ?_⟩
  have hg' : Gl (X.suite a ((a, oe) :: pn)) x := hg
  refine wpAny_Call_Name_kw (ld_glob I hg' hm ?_ hdb)
  refine PySem.W.callWith_K (h₀ := X.base) I.ok.mod.kin kp (PyProof.Rows.args_cons (thn (he.run pins s σ H _ I h) fun u s1 ⟨v, H1, I1, r, ev, q⟩ => PyProof.Rows.args_nil ?_) hs) hs rfl
  subst ev
  cases (show u = Value.ref a from r)
  refine ⟨I1.kIn, ?_⟩
  have P1 := I1.pin (a, oe) (List.mem_append_left _ List.mem_cons_self)
  have hpin : PinOk X.stack H1 s1 (a, oe) := ⟨P1.1, P1.2.1, fun hm => (List.mem_cons.mp (I1.stkSub a hm)).elim P1.2.2.1 P1.2.2.2.1, P1.2.2.2.2⟩
  have given := b s1 [Value.ref a] I1.kIn (by rw [List.append_nil, F.one]; rfl)
  rw [List.append_nil] at given
  have rm : RoomH k (X.suite a ((a, oe) :: pn)).A := roomH_mark (hr.mono hk) _
  refine wpAny_call (codeAny_mono (F.run (X.suite a ((a, oe) :: pn)).A X.stack s1 H1 ⟨[Value.ref a], []⟩ a oe cls d Q rm hpin I1.env0 given hz hf q) fun out s2 z => ?_)
  match out, z with
  | .ok (.ret _), z => exact I1.after z
  | .error e, z => exact z.elim
  | .ok .next, z => exact z.elim
  | .ok .brk, z => exact z.elim
  | .ok .cont, z => exact z.elim
end RM

set_option Elab.async false
set_option linter.all false
set_option maxRecDepth 100000
set_option maxHeartbeats 4000000
set_option pp.maxSteps 600
set_option pp.deepTerms false
namespace RM
open PySem PySem.Spec PyProof.Rows L2
section
variable {P : Program} {w : World} {K : PySem.W.Frag} {mg : Str → Option Value} {base : Heap}
theorem boot_ValueError : bootBuiltins "ValueError" = some (.type "ValueError") := by decide +kernel
/-- what it tells of an exception whose class is that of the name x -/
def told12 (x : Str) : List V := (names12.map fun y => V.bl (decide (x = y))) ++ [.bl true]
def spKinds (K : PySem.W.Frag) : SpP := fun a cls d H Q => ∃ x ∈ names12, cls = .ref (He.ga K x) ∧ (∀ dx, d = some dx → ∃ fs, H dx = some (.xd fs)) ∧ ∀ p H', Same H H' → H' p = some (.lst (told12 x)) → Q (.ref p) H'
theorem sc_law_kinds : FnScope ["_law_e", "_law_told"] ["_law_e"] (defScope s_law_kinds) := ⟨rfl, rfl, rfl, by decide +kernel, rfl, by decide +kernel, by decide +kernel⟩
theorem c_law_kinds (T : Top w K mg) : PinC P w K mg base 10 "_law_kinds" (spKinds K) := by
  refine pin_c (f_law_kinds T) (g_law_kinds T) sc_law_kinds (fun _ _ _ _ _ _ us hl => match us, hl with | [_], _ => rfl) rfl (fun cdv A outer s H a oe cls d Q hr hz hf h => ?_)
  obtain ⟨x, hx, rfl, hd, q⟩ := h
  have kK := kindsB_ok (kinds_all T) hx
  have kC := kK.1
  refine ⟨_, (pss_cons (ps_set (i := 1) sc_law_kinds.nd rfl (Or.inl rfl) (pe_lst (pa_cons (pcb (z_isinstance T) (call_isP kC hz hf List.mem_cons_self) boot_isinstance (pa_cons (pv 0) (pa_cons (pglR (g_BadValues T)) pa_nil))) (pa_cons (pcb (z_isinstance T) (call_isP kC hz hf List.mem_cons_self) boot_isinstance (pa_cons (pv 0) (pa_cons (pglR (g_TooLong T)) pa_nil))) (pa_cons (pcb (z_isinstance T) (call_isP kC hz hf List.mem_cons_self) boot_isinstance (pa_cons (pv 0) (pa_cons (pglR (g_TooDeep T)) pa_nil))) (pa_cons (pcb (z_isinstance T) (call_isP kC hz hf List.mem_cons_self) boot_isinstance (pa_cons (pv 0) (pa_cons (pglR (g_TooMany T)) pa_nil))) pa_nil))))))
    (pss_cons (ps_set (i := 1) sc_law_kinds.nd rfl (Or.inl rfl) (pe_op op_cat (pv 1) (pe_lst (pa_cons (pcb (z_isinstance T) (call_isP kC hz hf List.mem_cons_self) boot_isinstance (pa_cons (pv 0) (pa_cons (pglR (g_NoRead T)) pa_nil))) (pa_cons (pcb (z_isinstance T) (call_isP kC hz hf List.mem_cons_self) boot_isinstance (pa_cons (pv 0) (pa_cons (pglR (g_NothingToUndo T)) pa_nil))) (pa_cons (pcb (z_isinstance T) (call_isP kC hz hf List.mem_cons_self) boot_isinstance (pa_cons (pv 0) (pa_cons (pglR (g_BadValue T)) pa_nil))) pa_nil))))))
    (pss_cons (ps_set (i := 1) sc_law_kinds.nd rfl (Or.inl rfl) (pe_op op_cat (pv 1) (pe_lst (pa_cons (pcb (z_isinstance T) (call_isP kC hz hf List.mem_cons_self) boot_isinstance (pa_cons (pv 0) (pa_cons (pglR (g_NoKey T)) pa_nil))) (pa_cons (pcb (z_isinstance T) (call_isP kC hz hf List.mem_cons_self) boot_isinstance (pa_cons (pv 0) (pa_cons (pglR (g_BadStatement T)) pa_nil))) (pa_cons (pcb (z_isinstance T) (call_isP kC hz hf List.mem_cons_self) boot_isinstance (pa_cons (pv 0) (pa_cons (pglR (g_BadSchedule T)) pa_nil))) pa_nil))))))
    (pss_one (ps_ret (pe_op op_cat (pv 1) (pe_lst (pa_cons (pcb (z_isinstance T) (call_isP kC hz hf List.mem_cons_self) boot_isinstance (pa_cons (pv 0) (pa_cons (pglR (g_BadText T)) pa_nil))) (pa_cons (pcb (z_isinstance T) (call_isP kC hz hf List.mem_cons_self) boot_isinstance (pa_cons (pv 0) (pa_cons (pglR (g_NoChange T)) pa_nil))) (pa_cons (pcb (z_isinstance T) (call_isP kC hz hf List.mem_cons_self) boot_isinstance (pa_cons (pv 0) (pa_cons (pty (z_ValueError T) boot_ValueError) pa_nil))) pa_nil)))))))))), ?_⟩
  have hk : ∀ {H' : Hp}, Same H H' → ∀ dx, d = some dx → ∃ fs, H' dx = some (.xd fs) := fun e dx z => let ⟨fs, h1⟩ := hd dx z; ⟨fs, e _ _ h1⟩
  refine ⟨_, rfl, _, .ref (He.ga K "BadValues"), decide (x = "BadValues"), rfl, .own _, kK.2.2 _ (by decide +kernel), hd, _, rfl, _, .ref (He.ga K "TooLong"), decide (x = "TooLong"), rfl, .own _, kK.2.2 _ (by decide +kernel), hd, _, rfl, _, .ref (He.ga K "TooDeep"), decide (x = "TooDeep"), rfl, .own _, kK.2.2 _ (by decide +kernel), hd, _, rfl, _, .ref (He.ga K "TooMany"), decide (x = "TooMany"), rfl, .own _, kK.2.2 _ (by decide +kernel), hd, (by show 4 ≤ sizeLine; decide), fun l1 n1 => ?_⟩
  have s1 := smNew1 n1 (.lst [.bl (decide (x = "BadValues")), .bl (decide (x = "TooLong")), .bl (decide (x = "TooDeep")), .bl (decide (x = "TooMany"))])
  have h1 : (upd H l1 (.lst [.bl (decide (x = "BadValues")), .bl (decide (x = "TooLong")), .bl (decide (x = "TooDeep")), .bl (decide (x = "TooMany"))])) l1 = _ := upd_same
  refine ⟨_, rfl, _, rfl, _, .ref (He.ga K "NoRead"), decide (x = "NoRead"), rfl, .own _, kK.2.2 _ (by decide +kernel), hk (s1), _, rfl, _, .ref (He.ga K "NothingToUndo"), decide (x = "NothingToUndo"), rfl, .own _, kK.2.2 _ (by decide +kernel), hk (s1), _, rfl, _, .ref (He.ga K "BadValue"), decide (x = "BadValue"), rfl, .own _, kK.2.2 _ (by decide +kernel), hk (s1), (by show 3 ≤ sizeLine; decide), fun b1 m1 => ?_⟩
  have t1 := smNew (s1) m1 (.lst [.bl (decide (x = "NoRead")), .bl (decide (x = "NothingToUndo")), .bl (decide (x = "BadValue"))])
  refine ⟨l1, b1, _, _, rfl, rfl, (smNew1 m1 _) _ _ h1, upd_same, (by show 7 ≤ sizeLine; decide), fun l2 n2 => ?_⟩
  have s2 := smNew t1 n2 (.lst ([.bl (decide (x = "BadValues")), .bl (decide (x = "TooLong")), .bl (decide (x = "TooDeep")), .bl (decide (x = "TooMany"))] ++ [.bl (decide (x = "NoRead")), .bl (decide (x = "NothingToUndo")), .bl (decide (x = "BadValue"))]))
  refine ⟨_, rfl, _, rfl, _, .ref (He.ga K "NoKey"), decide (x = "NoKey"), rfl, .own _, kK.2.2 _ (by decide +kernel), hk (s2), _, rfl, _, .ref (He.ga K "BadStatement"), decide (x = "BadStatement"), rfl, .own _, kK.2.2 _ (by decide +kernel), hk (s2), _, rfl, _, .ref (He.ga K "BadSchedule"), decide (x = "BadSchedule"), rfl, .own _, kK.2.2 _ (by decide +kernel), hk (s2), (by show 3 ≤ sizeLine; decide), fun b2 m2 => ?_⟩
  have t2 := smNew (s2) m2 (.lst [.bl (decide (x = "NoKey")), .bl (decide (x = "BadStatement")), .bl (decide (x = "BadSchedule"))])
  refine ⟨l2, b2, _, _, rfl, rfl, (smNew1 m2 _) _ _ upd_same, upd_same, (by show 10 ≤ sizeLine; decide), fun l3 n3 => ?_⟩
  have s3 := smNew t2 n3 (.lst ([.bl (decide (x = "BadValues")), .bl (decide (x = "TooLong")), .bl (decide (x = "TooDeep")), .bl (decide (x = "TooMany")), .bl (decide (x = "NoRead")), .bl (decide (x = "NothingToUndo")), .bl (decide (x = "BadValue"))] ++ [.bl (decide (x = "NoKey")), .bl (decide (x = "BadStatement")), .bl (decide (x = "BadSchedule"))]))
  refine ⟨_, rfl, _, rfl, _, .ref (He.ga K "BadText"), decide (x = "BadText"), rfl, .own _, kK.2.2 _ (by decide +kernel), hk (s3), _, rfl, _, .ref (He.ga K "NoChange"), decide (x = "NoChange"), rfl, .own _, kK.2.2 _ (by decide +kernel), hk (s3), _, rfl, _, .type "ValueError", true, rfl, .ty _, kK.2.1, hk (s3), (by show 3 ≤ sizeLine; decide), fun b3 m3 => ?_⟩
  have t3 := smNew (s3) m3 (.lst [.bl (decide (x = "BadText")), .bl (decide (x = "NoChange")), .bl true])
  refine ⟨l3, b3, _, _, rfl, rfl, (smNew1 m3 _) _ _ upd_same, upd_same, (by show 13 ≤ sizeLine; decide), fun l4 n4 => ?_⟩
  have s4 := smNew t3 n4 (.lst ([.bl (decide (x = "BadValues")), .bl (decide (x = "TooLong")), .bl (decide (x = "TooDeep")), .bl (decide (x = "TooMany")), .bl (decide (x = "NoRead")), .bl (decide (x = "NothingToUndo")), .bl (decide (x = "BadValue")), .bl (decide (x = "NoKey")), .bl (decide (x = "BadStatement")), .bl (decide (x = "BadSchedule"))] ++ [.bl (decide (x = "BadText")), .bl (decide (x = "NoChange")), .bl true]))
  exact q _ _ s4 upd_same
end
end RM

set_option Elab.async false
set_option linter.all false
set_option maxRecDepth 100000
set_option maxHeartbeats 2000000
namespace RM
open PySem PySem.Spec PyProof.Rows L2
/-! ### the draws: a list of four at d, apart from all else -/
def Hd4 (H : Hp) (d sc : Addr) : Prop := ∃ (p q r : Int), H d = some (.lst [.ref sc, .int p, .int q, .int r]) ∧ 0 ≤ p
def Scr (K : PySem.W.Frag) (H : Hp) (sc : Addr) : Prop := ∃ xs : List Int, SqL K H sc (xs.map V.int)
def DrawAt (K : PySem.W.Frag) (H : Hp) (d sc : Addr) : Prop := Hd4 H d sc ∧ Scr K (del H d) sc
/-- all but d is kept -/
def But (d : Addr) (H H' : Hp) : Prop := Same (del H d) (del H' d)
theorem But.refl (d : Addr) (H : Hp) : But d H H := Same.refl _
theorem But.trans {d : Addr} {H H1 H2 : Hp} (a : But d H H1) (b : But d H1 H2) : But d H H2 := Same.trans a b
theorem del_sm (H : Hp) (d : Addr) : Same (del H d) H := fun b u z => by
  by_cases hb : b = d
  · rw [hb, del_same] at z
    cases z
  · rwa [del_ne hb] at z
theorem but_upd (d : Addr) (H : Hp) (o : HO) : But d H (upd H d o) := fun b u z => by
  by_cases hb : b = d
  · rw [hb, del_same] at z
    cases z
  · rw [del_ne hb] at z ⊢
    rw [upd_ne hb]
    exact z
theorem but_sm {d : Addr} {H H' : Hp} (e : Same H H') : But d H H' := fun b u z => by
  by_cases hb : b = d
  · rw [hb, del_same] at z
    cases z
  · rw [del_ne hb] at z ⊢
    exact e _ _ z
theorem But.get {d b : Addr} {H H' : Hp} {o : HO} (e : But d H H') (hb : b ≠ d) (h : H b = some o) : H' b = some o := by
  have := e b o (by rw [del_ne hb]; exact h)
  rwa [del_ne hb] at this
theorem Scr.keep {K : PySem.W.Frag} {H H' : Hp} {sc : Addr} (e : Same H H') (h : Scr K H sc) : Scr K H' sc := let ⟨xs, h⟩ := h; ⟨xs, e.seq h⟩
theorem Hd4.keep {H H' : Hp} {d sc : Addr} (e : Same H H') (h : Hd4 H d sc) : Hd4 H' d sc := let ⟨p, q, r, h, z⟩ := h; ⟨p, q, r, e _ _ h, z⟩
theorem DrawAt.keep {K : PySem.W.Frag} {H H' : Hp} {d sc : Addr} (e : Same H H') (h : DrawAt K H d sc) : DrawAt K H' d sc := ⟨h.1.keep e, h.2.keep (but_sm e)⟩
theorem DrawAt.set {K : PySem.W.Frag} {H : Hp} {d sc : Addr} {xs : List Int} (h2 : SqL K (del H d) sc (xs.map V.int)) {p : Int} (h3 : 0 ≤ p) (q r : Int) : DrawAt K (upd H d (.lst [.ref sc, .int p, .int q, .int r])) d sc :=
  ⟨⟨p, q, r, upd_same, h3⟩, xs, (but_upd d H _).seq h2⟩
theorem Hd4.ne {H : Hp} {d sc : Addr} (h : Hd4 H d sc) : H d ≠ none := by
  obtain ⟨p, q, r, h, _⟩ := h
  rw [h]
  exact fun z => nomatch z
/-! ### what is new since H0 -/
def nw (H0 H : Hp) : Hp := fun b => match H0 b with
  | none => H b
  | some _ => none
theorem nw_new {H0 H : Hp} {b : Addr} (h : H0 b = none) : nw H0 H b = H b := by
  unfold nw
  rw [h]
theorem nw_some {H0 H : Hp} {b : Addr} {u : HO} (h : nw H0 H b = some u) : H0 b = none ∧ H b = some u := by
  unfold nw at h
  cases e : H0 b with
  | none => rw [e] at h; exact ⟨rfl, h⟩
  | some v => rw [e] at h; cases h
theorem nw_sm (H0 H : Hp) : Same (nw H0 H) H := fun b u z => (nw_some z).2
/-- all of H0 stands in H -/
def Gro (H0 H : Hp) : Prop := ∀ b, H b = none → H0 b = none
theorem Gro.refl (H : Hp) : Gro H H := fun _ h => h
theorem Gro.trans {H0 H1 H2 : Hp} (a : Gro H0 H1) (b : Gro H1 H2) : Gro H0 H2 := fun c h => a c (b c h)
theorem gro_sm {H0 H : Hp} (e : Same H0 H) : Gro H0 H := fun b h => e.free h
theorem gro_upd {H : Hp} {p : Addr} {o : HO} : Gro H (upd H p o) := fun b h => by
  by_cases hb : b = p
  · rw [hb, upd_same] at h
    cases h
  · rwa [upd_ne hb] at h
theorem gro_but {d : Addr} {H0 H : Hp} (e : But d H0 H) (hd : H d ≠ none) : Gro H0 H := fun b h => by
  by_cases hb : b = d
  · rw [hb] at h
    exact absurd h hd
  · cases z : H0 b with
    | none => rfl
    | some u =>
      rw [e.get hb z] at h
      cases h
theorem nw_but {d : Addr} {H0 H H' : Hp} (e : But d H H') (h0 : H0 d ≠ none) : Same (nw H0 H) (nw H0 H') := fun b u z => by
  obtain ⟨z1, z2⟩ := nw_some z
  rw [nw_new z1]
  exact e.get (fun q => h0 (by rw [← q]; exact z1)) z2
theorem nw_keep {H0 H H' : Hp} (e : Same H H') : Same (nw H0 H) (nw H0 H') := fun b u z => by
  obtain ⟨z1, z2⟩ := nw_some z
  rw [nw_new z1]
  exact e _ _ z2
theorem nw_back {H0 H1 H : Hp} (g : Gro H0 H1) : Same (nw H1 H) (nw H0 H) := fun b u z => by
  obtain ⟨z1, z2⟩ := nw_some z
  rw [nw_new (g _ z1)]
  exact z2
/-- what is new since H1 isn't p, that stood in H1 -/
theorem nw_del {H1 H : Hp} {p : Addr} (h : H1 p ≠ none) : Same (nw H1 H) (del (nw H1 H) p) := fun b u z => by
  rw [del_ne fun q => h (by rw [← q]; exact (nw_some z).1)]
  exact z
theorem del_mono {p : Addr} {H H' : Hp} (e : Same H H') : Same (del H p) (del H' p) := but_sm e
section
variable {P : Program} {w : World} {K : PySem.W.Frag} {mg : Str → Option Value} {base : Heap}
def spBegin (K : PySem.W.Frag) : Sp := fun vs H Q _ => match vs with
  | [x] => ∃ (a : Addr) (xs : List Int), x = .ref a ∧ SqL K H a (xs.map V.int) ∧ ∀ d sc H', Same H H' → H d = none → DrawAt K H' d sc → Q (.ref d) H'
  | _ => False
theorem sc_law_begin : FnScope ["_law_script"] ["_law_script"] (defScope s_law_begin) := ⟨rfl, rfl, rfl, by decide +kernel, rfl, by decide +kernel, by decide +kernel⟩
theorem c_law_begin (T : Top w K mg) : Cal P w K mg base CX0 1 "_law_begin" (spBegin K) := by
  refine cal_0 (f_law_begin T) (g_law_begin T) sc_law_begin (fun _ _ _ _ _ _ us hl => match us, hl with | [_], _ => rfl) (fun vs H Q E h => match vs, h with | [_], _ => rfl) (fun cdv A outer s H vs Q E hr h => ?_)
  match vs, h with
  | [x], h =>
  obtain ⟨a, xs, rfl, ha, q⟩ := h
  refine ⟨_, (pss_one (ps_ret (pe_lst (pa_cons (pct (z_list T) call_list_of boot_list (pa_cons (pv 0) pa_nil)) (pa_cons pe_int (pa_cons pe_int (pa_cons pe_int pa_nil))))))), ?_⟩
  refine ⟨_, rfl, a, _, rfl, .inl ha, fun sc hsc => ?_⟩
  refine ⟨(by show 4 ≤ sizeLine; decide), fun d hd => ?_⟩
  have s1 : Same H (upd H sc (.lst (xs.map V.int))) := smNew1 hsc _
  refine q d sc _ (smNew s1 hd _) (s1.free hd) ⟨⟨0, 0, 7, upd_same, Int.le_refl 0⟩, xs, ?_⟩
  refine SqL.of ?_
  have hne : sc ≠ d := fun e => by
    rw [← e, upd_same] at hd
    cases hd
  rw [del_ne hne, upd_ne hne]
  exact upd_same
/-! ### _law_draw -/
def spDraw (K : PySem.W.Frag) : Sp := fun vs H Q _ => match vs with
  | [x, y] => ∃ d sc m, x = .ref d ∧ y = .int m ∧ DrawAt K H d sc ∧ 0 < m ∧ m < 1000000 ∧ ∀ r H', 0 ≤ r → r < m → But d H H' → DrawAt K H' d sc → Q (.int r) H'
  | _ => False
theorem sc_law_draw : FnScope ["_law_draws", "_law_many", "_law_cell", "_law_found"] ["_law_draws", "_law_many"] (defScope s_law_draw) := ⟨rfl, rfl, rfl, by decide +kernel, rfl, by decide +kernel, by decide +kernel⟩
theorem c_law_draw (T : Top w K mg) : Cal P w K mg base CX0 1 "_law_draw" (spDraw K) := by
  refine cal_0 (f_law_draw T) (g_law_draw T) sc_law_draw (fun _ _ _ _ _ _ us hl => match us, hl with | [_, _], _ => rfl) (fun vs H Q E h => match vs, h with | [_, _], _ => rfl) (fun cdv A outer s H vs Q E hr h => ?_)
  match vs, h with
  | [x, y], h =>
  obtain ⟨d, sc, m, rfl, rfl, ⟨⟨p, q0, r, hd, hp⟩, xs, hs⟩, m0, m1, q⟩ := h
  refine ⟨_, (pss_cons (ps_if (pt_cmpR op_eq (pe_ix ix_list (pv 0) pe_int (fun _ _ => rfl)) pe_int (nomark _))
      (pss_one (ps_if (pt_cmpR op_lt (pe_ix ix_list (pv 0) pe_int (fun _ _ => rfl)) (pcb (z_len T) call_len_seq boot_len (pa_cons (pe_ix ix_list (pv 0) pe_int (fun _ _ => rfl)) pa_nil)) (nomark _))
      (pss_cons (ps_set (i := 2) sc_law_draw.nd rfl (Or.inl rfl) (pe_ix ix_list (pe_ix ix_list (pv 0) pe_int (fun _ _ => rfl)) (pe_ix ix_list (pv 0) pe_int (fun _ _ => rfl)) (fun _ _ => rfl)))
    (pss_cons (ps_asg (pe_op op_add (pe_ix ix_list (pv 0) pe_int (fun _ _ => rfl)) pe_int) (pg_sub (pv 0) pe_int set_list))
    (pss_one (ps_if (pt_cmpR op_ge (pv 2) (pe_op op_pow pe_int pe_int) (nomark _))
      (pss_one (ps_asg (pv 2) (pg_sub (pv 0) pe_int set_list)))
      (pss_one (ps_asg (pe_op op_mod (pct (z_int T) call_int1 boot_int (pa_cons (pe_op op_add (pe_op op_add (pe_op op_mul (pe_ix ix_list (pv 0) pe_int (fun _ _ => rfl)) pe_int) (pe_op op_mul (pv 2) pe_int)) pe_int) pa_nil)) pe_int) (pg_sub (pv 0) pe_int set_list)))))))
      (pss_one (ps_asg (pe_op op_mod (pct (z_int T) call_int1 boot_int (pa_cons (pe_op op_add (pe_op op_mul (pe_ix ix_list (pv 0) pe_int (fun _ _ => rfl)) pe_int) pe_int) pa_nil)) pe_int) (pg_sub (pv 0) pe_int set_list)))))
      pss_nil)
    (pss_cons (ps_if (pt_cmpR op_gt (pe_ix ix_list (pv 0) pe_int (fun _ _ => rfl)) pe_int (nomark _))
      (pss_cons (ps_set (i := 3) sc_law_draw.nd rfl (Or.inl rfl) (pe_op op_mod (pct (z_int T) call_int1 boot_int (pa_cons (pe_ix ix_list (pv 0) pe_int (fun _ _ => rfl)) pa_nil)) (pv 1)))
    (pss_cons (ps_asg (pe_op op_fdiv (pe_ix ix_list (pv 0) pe_int (fun _ _ => rfl)) (pv 1)) (pg_sub (pv 0) pe_int set_list))
    (pss_one (ps_ret (pv 3)))))
      pss_nil)
    (pss_one (ps_ret (pe_op op_mod (pe_op op_mod (pct (z_int T) call_int1 boot_int (pa_cons (pe_op op_mul (pe_ix ix_list (pv 0) pe_int (fun _ _ => rfl)) pe_int) pa_nil)) pe_int) (pv 1)))))), ?_⟩
  have hs0 : SqL K H sc (xs.map V.int) := (del_sm H d).seq hs
  refine ⟨_, rfl, _, _, _, _, rfl, rfl, SqL.of hd, at2, rfl, _, rfl, ?_⟩
  refine ifB (fun hq => ?_) (fun hq => ?_)
  · refine ⟨_, rfl, _, _, _, _, rfl, rfl, SqL.of hd, at1, ?_⟩
    refine ⟨_, rfl, _, _, _, _, rfl, rfl, SqL.of hd, at0, _, _, rfl, .inl hs0, ?_⟩
    refine ⟨_, _, rfl, rfl, _, rfl, ?_⟩
    refine ifB (fun hl => ?_) (fun hl => ?_)
    · have hl1 : p < ((xs.map V.int).length : Nat) := of_decide_eq_true hl
      rw [List.length_map] at hl1
      obtain ⟨k, rfl⟩ : ∃ k : Nat, p = k := ⟨p.toNat, by omega⟩
      have hk : k < xs.length := by omega
      -- the cell
      refine ⟨_, rfl, _, _, _, _, rfl, rfl, SqL.of hd, at0, ?_⟩
      refine ⟨_, rfl, _, _, _, _, rfl, rfl, SqL.of hd, at1, ?_⟩
      refine ⟨_, _, _, V.int xs[k], rfl, rfl, hs0, atI_nat (by rw [List.getElem?_map, List.getElem?_eq_getElem hk]; rfl), ?_⟩
      -- the place
      refine ⟨_, rfl, _, _, _, _, rfl, rfl, SqL.of hd, at1, ?_⟩
      refine ⟨_, _, rfl, rfl, ?_⟩
      refine ⟨_, rfl, d, _, _, 1, rfl, rfl, hd, rfl, ?_⟩
      obtain ⟨H1, e1, hd1, hs1, bt1⟩ : ∃ H1, H1 = upd H d (.lst [.ref sc, .int ((k : Int) + 1), .int q0, .int r]) ∧ H1 d = some (.lst [.ref sc, .int ((k : Int) + 1), .int q0, .int r]) ∧ SqL K (del H1 d) sc (xs.map V.int) ∧ But d H H1 := ⟨_, rfl, upd_same, (but_upd d H _).seq hs, but_upd d H _⟩
      have e1' : upd H d (.lst ([V.ref sc, .int k, .int q0, .int r].set 1 (.int ((k : Int) + 1)))) = H1 := e1.symm
      rw [e1']
      have hp2 : (0 : Int) ≤ (k : Int) + 1 := by omega
      refine ⟨_, rfl, _, _, rfl, rfl, ⟨by decide, by decide, by decide⟩, ?_⟩
      refine ⟨_, _, rfl, rfl, _, rfl, ?_⟩
      refine ifB (fun hc => ?_) (fun hc => ?_)
      · refine ⟨_, rfl, _, rfl, d, _, _, 2, rfl, rfl, hd1, rfl, ?_⟩
        obtain ⟨H2, e2, hd2, hs2, bt⟩ : ∃ H2, H2 = upd H1 d (.lst [.ref sc, .int ((k : Int) + 1), .int xs[k], .int r]) ∧ H2 d = some (.lst [.ref sc, .int ((k : Int) + 1), .int xs[k], .int r]) ∧ SqL K (del H2 d) sc (xs.map V.int) ∧ But d H H2 := ⟨_, rfl, upd_same, (but_upd d H1 _).seq hs1, bt1.trans (but_upd d H1 _)⟩
        have e2' : upd H1 d (.lst ([V.ref sc, .int ((k : Int) + 1), .int q0, .int r].set 2 (.int xs[k]))) = H2 := e2.symm
        rw [e2']
        refine ⟨_, rfl, _, _, _, _, rfl, rfl, SqL.of hd2, at2, _, _, rfl, rfl, _, rfl, ?_⟩
        refine ifB (fun hq2 => ?_) (fun hq2 => ?_)
        · refine ⟨_, rfl, _, _, _, _, rfl, rfl, SqL.of hd2, at2, .inl ⟨_, rfl, ?_⟩⟩
          refine ⟨_, rfl, _, _, rfl, rfl, m0, ?_⟩
          refine ⟨_, rfl, _, _, _, _, rfl, rfl, SqL.of hd2, at2, ?_⟩
          refine ⟨_, rfl, _, _, rfl, rfl, ⟨m0, by omega⟩, ?_⟩
          refine ⟨_, rfl, d, _, _, 2, rfl, rfl, hd2, rfl, ?_⟩
          refine ⟨_, rfl, ?_⟩
          exact q _ _ (Int.emod_nonneg _ (by omega)) (Int.emod_lt_of_pos _ m0) (bt.trans (but_upd d _ _)) (DrawAt.set hs2 hp2 _ _)
        · refine ⟨_, rfl, _, _, _, _, rfl, rfl, SqL.of hd2, at3, ?_⟩
          refine ⟨_, _, rfl, rfl, .inr (by decide), .inl ⟨_, rfl, ?_⟩⟩
          refine ⟨_, _, rfl, rfl, (by show (0 : Int) < _; decide), ?_⟩
          refine ⟨_, rfl, _, _, rfl, rfl, m0, ?_⟩
          exact q _ _ (Int.emod_nonneg _ (by omega)) (Int.emod_lt_of_pos _ m0) bt ⟨⟨_, _, _, hd2, hp2⟩, _, hs2⟩
      · refine ⟨_, rfl, _, _, _, _, rfl, rfl, SqL.of hd1, at3, ?_⟩
        refine ⟨_, _, rfl, rfl, .inr (by decide), ?_⟩
        refine ⟨_, rfl, _, _, rfl, rfl, .inr (by decide), ?_⟩
        refine ⟨_, _, rfl, rfl, _, _, rfl, rfl, .inl ⟨_, rfl, ?_⟩⟩
        refine ⟨_, _, rfl, rfl, (by show (0 : Int) < _; decide), ?_⟩
        refine ⟨_, rfl, d, _, _, 3, rfl, rfl, hd1, rfl, ?_⟩
        obtain ⟨H2, e2, hd2, hs2, bt⟩ : ∃ H2, H2 = upd H1 d (.lst [.ref sc, .int ((k : Int) + 1), .int q0, .int ((r * 48271 + xs[k] * 69621 + 11) % 2147483647)]) ∧ H2 d = some (.lst [.ref sc, .int ((k : Int) + 1), .int q0, .int ((r * 48271 + xs[k] * 69621 + 11) % 2147483647)]) ∧ SqL K (del H2 d) sc (xs.map V.int) ∧ But d H H2 := ⟨_, rfl, upd_same, (but_upd d H1 _).seq hs1, bt1.trans (but_upd d H1 _)⟩
        have e2' : upd H1 d (.lst ([V.ref sc, .int ((k : Int) + 1), .int q0, .int r].set 3 (.int ((r * 48271 + xs[k] * 69621 + 11) % 2147483647)))) = H2 := e2.symm
        rw [e2']
        refine ⟨_, rfl, _, _, _, _, rfl, rfl, SqL.of hd2, at2, _, _, rfl, rfl, _, rfl, ?_⟩
        refine ifB (fun hq2 => ?_) (fun hq2 => ?_)
        · refine ⟨_, rfl, _, _, _, _, rfl, rfl, SqL.of hd2, at2, .inl ⟨_, rfl, ?_⟩⟩
          refine ⟨_, rfl, _, _, rfl, rfl, m0, ?_⟩
          refine ⟨_, rfl, _, _, _, _, rfl, rfl, SqL.of hd2, at2, ?_⟩
          refine ⟨_, rfl, _, _, rfl, rfl, ⟨m0, by omega⟩, ?_⟩
          refine ⟨_, rfl, d, _, _, 2, rfl, rfl, hd2, rfl, ?_⟩
          refine ⟨_, rfl, ?_⟩
          exact q _ _ (Int.emod_nonneg _ (by omega)) (Int.emod_lt_of_pos _ m0) (bt.trans (but_upd d _ _)) (DrawAt.set hs2 hp2 _ _)
        · refine ⟨_, rfl, _, _, _, _, rfl, rfl, SqL.of hd2, at3, ?_⟩
          refine ⟨_, _, rfl, rfl, .inr (by decide), .inl ⟨_, rfl, ?_⟩⟩
          refine ⟨_, _, rfl, rfl, (by show (0 : Int) < _; decide), ?_⟩
          refine ⟨_, rfl, _, _, rfl, rfl, m0, ?_⟩
          exact q _ _ (Int.emod_nonneg _ (by omega)) (Int.emod_lt_of_pos _ m0) bt ⟨⟨_, _, _, hd2, hp2⟩, _, hs2⟩
    · refine ⟨_, rfl, _, _, _, _, rfl, rfl, SqL.of hd, at3, ?_⟩
      refine ⟨_, _, rfl, rfl, .inr (by decide), ?_⟩
      refine ⟨_, _, rfl, rfl, .inl ⟨_, rfl, ?_⟩⟩
      refine ⟨_, _, rfl, rfl, (by show (0 : Int) < _; decide), ?_⟩
      refine ⟨_, rfl, d, _, _, 3, rfl, rfl, hd, rfl, ?_⟩
      have hp2 := hp
      obtain ⟨H2, e2, hd2, hs2, bt⟩ : ∃ H2, H2 = upd H d (.lst [.ref sc, .int p, .int q0, .int ((r * 48271 + 7) % 2147483647)]) ∧ H2 d = some (.lst [.ref sc, .int p, .int q0, .int ((r * 48271 + 7) % 2147483647)]) ∧ SqL K (del H2 d) sc (xs.map V.int) ∧ But d H H2 := ⟨_, rfl, upd_same, (but_upd d H _).seq hs, but_upd d H _⟩
      have e2' : upd H d (.lst ([V.ref sc, .int p, .int q0, .int r].set 3 (.int ((r * 48271 + 7) % 2147483647)))) = H2 := e2.symm
      rw [e2']
      refine ⟨_, rfl, _, _, _, _, rfl, rfl, SqL.of hd2, at2, _, _, rfl, rfl, _, rfl, ?_⟩
      refine ifB (fun hq2 => ?_) (fun hq2 => ?_)
      · refine ⟨_, rfl, _, _, _, _, rfl, rfl, SqL.of hd2, at2, .inl ⟨_, rfl, ?_⟩⟩
        refine ⟨_, rfl, _, _, rfl, rfl, m0, ?_⟩
        refine ⟨_, rfl, _, _, _, _, rfl, rfl, SqL.of hd2, at2, ?_⟩
        refine ⟨_, rfl, _, _, rfl, rfl, ⟨m0, by omega⟩, ?_⟩
        refine ⟨_, rfl, d, _, _, 2, rfl, rfl, hd2, rfl, ?_⟩
        refine ⟨_, rfl, ?_⟩
        exact q _ _ (Int.emod_nonneg _ (by omega)) (Int.emod_lt_of_pos _ m0) (bt.trans (but_upd d _ _)) (DrawAt.set hs2 hp2 _ _)
      · refine ⟨_, rfl, _, _, _, _, rfl, rfl, SqL.of hd2, at3, ?_⟩
        refine ⟨_, _, rfl, rfl, .inr (by decide), .inl ⟨_, rfl, ?_⟩⟩
        refine ⟨_, _, rfl, rfl, (by show (0 : Int) < _; decide), ?_⟩
        refine ⟨_, rfl, _, _, rfl, rfl, m0, ?_⟩
        exact q _ _ (Int.emod_nonneg _ (by omega)) (Int.emod_lt_of_pos _ m0) bt ⟨⟨_, _, _, hd2, hp2⟩, _, hs2⟩
  · have hd2 := hd
    have hs2 := hs
    have hp2 := hp
    have bt := But.refl d H
    refine ⟨_, rfl, _, _, _, _, rfl, rfl, SqL.of hd2, at2, _, _, rfl, rfl, _, rfl, ?_⟩
    refine ifB (fun hq2 => ?_) (fun hq2 => ?_)
    · refine ⟨_, rfl, _, _, _, _, rfl, rfl, SqL.of hd2, at2, .inl ⟨_, rfl, ?_⟩⟩
      refine ⟨_, rfl, _, _, rfl, rfl, m0, ?_⟩
      refine ⟨_, rfl, _, _, _, _, rfl, rfl, SqL.of hd2, at2, ?_⟩
      refine ⟨_, rfl, _, _, rfl, rfl, ⟨m0, by omega⟩, ?_⟩
      refine ⟨_, rfl, d, _, _, 2, rfl, rfl, hd2, rfl, ?_⟩
      refine ⟨_, rfl, ?_⟩
      exact q _ _ (Int.emod_nonneg _ (by omega)) (Int.emod_lt_of_pos _ m0) (bt.trans (but_upd d _ _)) (DrawAt.set hs2 hp2 _ _)
    · refine ⟨_, rfl, _, _, _, _, rfl, rfl, SqL.of hd2, at3, ?_⟩
      refine ⟨_, _, rfl, rfl, .inr (by decide), .inl ⟨_, rfl, ?_⟩⟩
      refine ⟨_, _, rfl, rfl, (by show (0 : Int) < _; decide), ?_⟩
      refine ⟨_, rfl, _, _, rfl, rfl, m0, ?_⟩
      exact q _ _ (Int.emod_nonneg _ (by omega)) (Int.emod_lt_of_pos _ m0) bt ⟨⟨_, _, _, hd2, hp2⟩, _, hs2⟩
end
end RM

set_option Elab.async false
set_option linter.all false
set_option maxRecDepth 100000
set_option maxHeartbeats 8000000
set_option pp.maxSteps 600
set_option pp.deepTerms false
namespace RM
open PySem PySem.Spec PyProof.Rows L2
section
variable {P : Program} {w : World} {K : PySem.W.Frag} {mg : Str → Option Value} {base : Heap}
def spLaw (K : PySem.W.Frag) : Sp := fun vs H Q _ => match vs with
  | [x] => ∃ (a : Addr) (xs : List Int), x = .ref a ∧ SqL K H a (xs.map V.int) ∧ ∀ H', Q (.bl true) H'
  | _ => False
def bs12 (t : Nat) : List Bool := ((List.range 12).filterMap fun i => some (decide (i = t))) ++ [true]
theorem told_at : ∀ t < 12, (names12.map fun y => decide (names12.getD t "" = y)) ++ [true] = bs12 t := by decide +kernel
theorem told_bs {t : Nat} (h : t < 12) : told12 (names12.getD t "") = (bs12 t).map V.bl := by
  rw [← told_at t h, List.map_append, List.map_map]
  rfl
theorem eqv_bs : ∀ t < 12, PyData.eqv (.list ((bs12 t).map PyData.bool)) (.list ((bs12 t).map PyData.bool)) = true := by decide +kernel
theorem dp_bl {H : Hp} : ∀ bs : List Bool, DpAll K H (bs.map V.bl) (bs.map PyData.bool)
  | [] => .nil
  | b :: r => .cons (.bl b) (dp_bl r)
theorem law_fin {H : Hp} {D : Ends} {a0 d x p : Addr} {t : Nat} (ht : t < 12) (hp : H p = some (.lst (told12 (names12.getD t "")))) (q : ∀ H', D.rt (.bl true) H') :
    tRet (tOp (rEqD K) (tVar 4) (tOp rCat (tLc (iRng1 (tCons (tC (V.int 12)) tNil)) (gName 6) tYes (tOp rEq (tVar 6) (tVar 2)) [6]) (tLst (tCons (tC (V.bl true)) tNil)))) D
      [some (.ref a0), some (.ref d), some (.int t), some (.ref x), some (.ref p), none, none] H := by
  refine ⟨_, rfl, 12, rfl, by decide, by decide, fun C nC => ?_⟩
  refine lc_opt (walk_range (lo := 0) (n := 12)) (fun (b : Bool) y H' => y = .bl b) (fun i => some (decide (i = t))) nC (small1000 (by decide)) (fun _ _ => trivial) (fun _ _ _ _ h e => h) (fun _ _ _ _ _ h hl => h) ?_ ?_
  · rintro i y H1 H2 N hi e ⟨rfl, rfl⟩ hk _
    refine ⟨rfl, yesI ⟨_, rfl, _, rfl, rfl, ?_⟩⟩
    refine hk _ _ _ rfl (fun _ _ z => z) ?_
    show V.bl (decide (V.int (0 + ((i : Nat) : Int)) = V.int ((t : Nat) : Int))) = V.bl (decide (i = t))
    rw [Int.zero_add, bool_if]
  · intro H1 ys e1 hC1 hp1
    have ey := paired_bl hp1
    refine ⟨(by show 1 ≤ sizeLine; decide), fun l2 h2 => ?_⟩
    refine ⟨C, l2, _, _, rfl, rfl, (smNew1 h2 _) _ _ hC1, upd_same, ?_, fun l3 h3 => ?_⟩
    · rw [ey, List.length_map]
      have := List.length_filterMap_le (fun i => some (decide (i = t))) (List.range 12)
      rw [List.length_range] at this
      exact Nat.le_of_lt (small1000 (by show _ + 1 ≤ _; omega))
    have s3 := smNew (smNew1 h2 (.lst [.bl true])) h3 (.lst (ys ++ [.bl true]))
    refine ⟨_, _, .lst (SqL.of (s3 _ _ (e1 _ _ hp))) (by rw [told_bs ht]; exact dp_bl _), .lst (SqL.of upd_same) (by rw [ey]; exact dp_bl (bs12 t)), rfl, rfl, ?_⟩
    rw [eqv_bs t ht]
    exact q _
theorem sc_law : FnScope ["_law_script", "_law_draws", "_law_at", "_law_place", "_law_told", "_law_e", "_law_k"] ["_law_script"] (defScope s_law) := ⟨rfl, rfl, rfl, by decide +kernel, rfl, by decide +kernel, by decide +kernel⟩
theorem xmAll (T : Top w K mg) : ∀ t < 12, PySem.W.exmOne K (.ref (He.ga K (names12.getD t ""))) (.ref (He.ga K "MomentError")) = some true
  | 0, _ => xm_BadValues_MomentError T
  | 1, _ => xm_TooLong_MomentError T
  | 2, _ => xm_TooDeep_MomentError T
  | 3, _ => xm_TooMany_MomentError T
  | 4, _ => xm_NoRead_MomentError T
  | 5, _ => xm_NothingToUndo_MomentError T
  | 6, _ => xm_BadValue_MomentError T
  | 7, _ => xm_NoKey_MomentError T
  | 8, _ => xm_BadStatement_MomentError T
  | 9, _ => xm_BadSchedule_MomentError T
  | 10, _ => xm_BadText_MomentError T
  | 11, _ => xm_NoChange_MomentError T
  | n + 12, h => absurd h (by omega)
theorem mem12 : ∀ t < 12, names12.getD t "" ∈ names12 := by decide +kernel
theorem b_law (T : Top w K mg) : Body0 P w K mg base ["_law_script", "_law_draws", "_law_at", "_law_place", "_law_told", "_law_e", "_law_k"] "law" s_law (He.ga K "law") 125 (spLaw K) := by
  intro cdv A outer s H0 vs Q E hr h
  match vs, h with
  | [x], h =>
  obtain ⟨a0, xs, rfl, ha, q⟩ := h
  -- slots: ["_law_script", "_law_draws", "_law_at", "_law_place", "_law_told", "_law_e", "_law_k"]
  refine ⟨_, (pss_cons (ps_set (i := 1) sc_law.nd rfl (Or.inl rfl) (pc (c_law_begin T) hr (pa_cons (pv 0) pa_nil)))
    (pss_cons (ps_set (i := 2) sc_law.nd rfl (Or.inr rfl) (pc (c_law_draw T) hr (pa_cons (pv 1) (pa_cons pe_int pa_nil))))
    (pss_cons (ps_set (i := 3) sc_law.nd rfl (Or.inl rfl) (pmk (c_Surroundings_init T) hr (pa_cons (pe_disp (pps_cons pe_str pe_int pps_nil) (by rfl) (by rfl) (fun z => by cases z) (by decide)) pa_nil)))
    (pss_cons (ps_set (i := 4) sc_law.nd rfl (Or.inl rfl) (pe_lst pa_nil))
    (pss_cons (ps_tryG (fun W pn xe tk => (pss_cons (ps_expr (pcX tk (c_law_first T) hr (pa_cons (pv 2) (pa_cons (pv 3) pa_nil))))
    (pss_one (ps_expr (pcX tk (c_law_second T) hr (pa_cons (pv 2) (pa_cons (pv 3) pa_nil)))))))
      (hds_as (i := 5) sc_law.nd rfl rfl ⟨rfl, by decide, Or.inl (g_MomentError T)⟩
      (fun a oe cls d pn hz hf => (pss_one (ps_set (i := 4) sc_law.nd rfl (Or.inl rfl) (pe_pin (c_law_kinds T) hr hz hf (pv 5)))))
      (hds_nil takes0)))
    (pss_one (ps_ret (pe_cmpR (op_eqD (room64 hr)) (pv 4) (pe_op op_cat (pe_lc (own := [("_law_k", 6)]) rfl sc_law.nd (pi_range1 rfl (z_range T) (pa_cons pe_int pa_nil)) (blkOk_by (own := [("_law_k", 6)]) (N := ["_law_script", "_law_draws", "_law_at", "_law_place", "_law_told", "_law_e", "_law_k"]) (sc := defScope s_law) (by decide +kernel)) (fun _ _ _ _ _ => (pg_name (i := 6) sc_law.nd rfl (Or.inl rfl) (Or.inr rfl))) (fun _ _ _ _ _ => pts_nil) (fun _ _ _ _ _ => (pe_cmpR op_eq (pv 6) (pv 2) (nomark _)))) (pe_lst (pa_cons pe_bl pa_nil))) (nomark _))))))))), ?_⟩
  refine ⟨_, rfl, a0, xs, rfl, ha, fun d sc H1 s1 nd da => ?_⟩
  refine ⟨_, rfl, d, sc, 12, rfl, rfl, da, by decide, by decide, fun t H2 t0 t1 b2 d2 => ?_⟩
  obtain ⟨t, rfl⟩ : ∃ n : Nat, t = n := ⟨t.toNat, by omega⟩
  have ht : t < 12 := by omega
  refine fun g hg => ⟨upd_same, [(.inr "a", .int 1)], rfl, by decide, ?_⟩
  intro x dx hx hdx hne
  have mI := mk_in (C := He.ga K "Surroundings") hx hdx hne
  have hg1 : (upd (upd H2 g (.dK [])) g (.dK (mK w1))) g = some (.dK (mK w1)) := upd_same
  refine ⟨x, dx, g, w1, rfl, rfl, upd_same, mI _ _ hg1, w1_ok.1, by decide, by decide, fun H4 m2 e4 ma pm => ⟨rfl, ?_⟩⟩
  have em : m2 = w1 := List.perm_singleton.mp pm
  subst em
  refine ⟨(by show 0 ≤ sizeLine; decide), fun l nl => ?_⟩
  have sb : SurAt K (upd H4 l (.lst [])) x w1 := SurAt.keep (smNew1 nl _) ⟨ma, by decide, by decide⟩
  have fin : ∀ (Hs : Hp) (cd : Option Addr), (∀ dx, cd = some dx → ∃ fs, Hs dx = some (.xd fs)) → True := fun _ _ _ => trivial
  refine ⟨_, rfl, _, rfl, t, x, rfl, rfl, sb, (fun h6 H5 s5 => ?_), (fun h6 cd H5 s5 hcd => ?_)⟩
  · refine ⟨_, rfl, _, rfl, t, x, rfl, rfl, sb.keep s5, h6, ht, fun cd H6 s6 hcd => ?_⟩
    refine ⟨true, xmAll T t ht, ifT rfl fun a ha => ?_⟩
    exact ⟨_, rfl, rfl, names12.getD t "", mem12 t ht, rfl, hcd, fun p H7 s7 hp => law_fin (K := K) ht hp (fun _ => q _)⟩
  · refine ⟨true, xmAll T t ht, ifT rfl fun a ha => ?_⟩
    exact ⟨_, rfl, rfl, names12.getD t "", mem12 t ht, rfl, hcd, fun p H7 s7 hp => law_fin (K := K) ht hp (fun _ => q _)⟩
end
end RM

set_option Elab.async false
set_option linter.all false
set_option maxRecDepth 100000
set_option maxHeartbeats 0
namespace RM
open PySem PySem.Spec PyProof.Rows L2
theorem law_ok {P : Program} {w : World} {K : PySem.W.Frag} {mg : Str → Option Value} {base : Heap} {fd : FuncData} (T : Top w K mg)
    (F : FunD K "law" "law" (defArgs s_law) (defBody s_law) (defScope s_law) [] [] (He.ga K "law") fd) : FnOk P w K mg base CX0 126 (He.ga K "law") fd ["_law_script"] (spLaw K) :=
  fn_0 F sc_law (fun vs H Q E h => match vs, h with | [_], _ => rfl) (b_law T)
end RM
open PySem PySem.W PySem.Calls PyProof.Rows
theorem PySem.Challenge.cw_readmoments_k23_errors_are_apart_holds : PySem.Challenge.rw_readmoments_k23_errors_are_apart.Holds := by
  w_on; o_law
  refine HandSHeadRun.head_any (r := OpenLaw.row PySem.Challenge.rw_readmoments_k23_errors_are_apart) (q := view (OpenLaw.row PySem.Challenge.rw_readmoments_k23_errors_are_apart).prog [85]) (H := RM.hk) (ob := RM.ob) (M := 9000) (loose := RM.names)
    (d := HandSHeadRun.topDef (OpenLaw.row PySem.Challenge.rw_readmoments_k23_errors_are_apart).prog 85) (kwd := []) RM.ob_eq
    (by kernel_rfl) (fun s => by kernel_rfl) RM.run (by kernel_rfl) (by kernel_rfl) (by kernel_rfl) (by rfl) (by first | assumption | decide +kernel) (by decide +kernel) ⟨rfl, rfl, rfl, rfl, rfl, by decide +kernel⟩ ?hw ?hc
  case hw => w_witness2
  case hc =>
    refine L2.walk_ofE (l := PySem.Challenge.rw_readmoments_k23_errors_are_apart) (n := 63) (k := 126) (x := "_law_script") (CX := L2.CX0) rfl (by decide) (by kernel_rfl) ⟨rfl, by decide, by decide⟩ ?F (fun _ _ _ _ z => z)
    intro w mg fa h Y G hmg0
    have hmg : mg ("law" : PySem.Str) = some (.ref fa) := by
      have e : (HandSHeadRun.topDef (OpenLaw.row PySem.Challenge.rw_readmoments_k23_errors_are_apart).prog 85).name = ("law" : PySem.Str) := by kernel_rfl
      rw [← e]
      exact hmg0
    obtain ⟨K, KX, c⟩ := Y
    have T : RM.Top w K mg := ⟨h, KX, G, c⟩
    obtain ⟨fd, F⟩ := RM.f_law T
    have e := hmg.symm.trans (RM.g_law T)
    cases e
    have b := L2.FunD.bindsA (ps := ["_law_script"]) F fun _ _ _ _ _ _ us hl => match us, hl with | [_], _ => rfl
    exact ⟨K, fd, RM.spLaw K, KX, fun s v => b s [v] rfl, fun H a ns hl _ hS => ⟨a, ns, rfl, hS, fun _ => rfl⟩, fun base _ _ => RM.law_ok T F⟩

