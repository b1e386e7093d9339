import PyProof.Rows.All
import HandS.IsInst
import Wide.All
import OpenK.AllK
import Wide.FinOn
import KE.KStateDown
import HandS.Base
import HandS.Call
import HandS.List
import HandS.Comp
import HandS.Ends
import HandS.Dict
import HandS.Iter
import HandS.Text
import HandS.Words
import HandS.WordsList
import HandS.Exc
import HandS.Defaults
import HandS.Deep
import HandS.Replace
import HandS.Strs
import PyProof.ReprRoads
import PyProof.CallFns
import PyProof.StrOps2
import HandS.ExcInit
import HandS.Head0
import HandS.Head1
import HandS.Head2
import HandS.HeadEnd
import HandS.HeadHook1
import HandS.HeadHook2
import KE.KSuper
import PyProof.Rows.StrDouble
import PyProof.Rows.StrFin3
import PyProof.Rows.RegFStrParts
import PyProof.Rows.StrJoinMade
import PyProof.Rows.StrDigitsNeg
import HandS.ExcSuper
import HandS.Nested
import KE.KExcSuper
import HandS.FStr
import PyProof.Rows.RegStrFacts
import HandS.ExcOwn
import HandS.ExcField
import HandS.WordsExc
import HandS.TryOnly
import HandS.Steps
import PySem.Challenge.RW_vatlink_k69_entries_exact
set_option Elab.async false
set_option linter.all false
set_option maxRecDepth 100000
set_option maxHeartbeats 4000000
namespace Vl
open PySem PySem.Spec PyProof.Rows L2

/-! ### calls of the text's own defs, bundled -/
/-- what the module's name x stands for: a def that keeps the promise sp -/
def OkF (P : Program) (w : World) (K : PySem.W.Frag) (mg : Str → Option Value) (base : Heap) (CX : CXT) (x : Str) (k : Nat) (ps : List Str) (sp : Sp) : Prop :=
  ∃ (f : Addr) (fd : FuncData), mg x = some (.ref f) ∧ PySem.W.keepIn K (.ref f) = true ∧ Binds K fd ps [] ∧ FnOk P w K mg base CX k f fd ps sp
/-- a method m of the class at C -/
def OkM (P : Program) (w : World) (K : PySem.W.Frag) (mg : Str → Option Value) (base : Heap) (CX : CXT) (C : Addr) (m : Str) (k : Nat) (ps : List Str) (sp : Sp) : Prop :=
  ∃ (f : Addr) (fd : FuncData), Cls K C ∧ Meth K C m f ∧ Binds K fd ps [] ∧ FnOk P w K mg base CX k f fd ps sp
/-- the class x, its maker -/
def OkC (P : Program) (w : World) (K : PySem.W.Frag) (mg : Str → Option Value) (base : Heap) (CX : CXT) (C : Addr) (x : Str) (k : Nat) (ps : List Str) (sp : Sp) : Prop :=
  ∃ (f : Addr) (fd : FuncData), mg x = some (.ref C) ∧ Mk K C f ∧ Binds K fd ps [] ∧ FnOk P w K mg base CX k f fd ps sp
section
variable {X : Cx} {CX : CXT} {k : Nat} {C : Addr} {ps : List Str} {sp : Sp} {E : XK} {x m : Str} {p pos apos : Pos} {e o : Expr} {es : List Expr} {ta : TE} {t : TA}
theorem fcall (h : OkF X.prog X.w X.K X.mg X.base CX x k ps sp) (hr : Room k X.A) (hx : Passes CX X E) (ha : PA X (e :: es) t) (hg : Gl X x := by rfl)
    (hdb : (x == ("__debug__" : Str)) = false := by decide) (he : starEach (e :: es) X.env = (false, eval e X.env) :: starEach es X.env := by rfl)
    (hpl : (backTo pos (starEach es X.env)).any (·.1) = false := by rfl) : PE X (.Call (.Name x p) (e :: es) [] pos) (tCall sp [] E t) := by
  obtain ⟨f, fd, hm, hk, hb, F⟩ := h
  exact pe_call F hr hg hm hk hb .nil hx ha hdb he hpl
theorem fcall0 (h : OkF X.prog X.w X.K X.mg X.base CX x k ps sp) (hr : Room k X.A) (hx : Passes CX X E) (hg : Gl X x := by rfl)
    (hdb : (x == ("__debug__" : Str)) = false := by decide) : PE X (.Call (.Name x p) [] [] pos) (tCall sp [] E tNil) := by
  obtain ⟨f, fd, hm, hk, hb, F⟩ := h
  exact pe_call0 F hr hg hm hk hb .nil hx hdb
end
end Vl
namespace Vl
open PySem PySem.Spec PyProof.Rows L2
section
variable {X : Cx} {CX : CXT} {k : Nat} {C : Addr} {ps : List Str} {sp : Sp} {E : XK} {x m : Str} {p pos apos : Pos} {e o : Expr} {es : List Expr} {ta : TE} {t : TA}
theorem mcall {pl : Sem Bool} (h : OkM X.prog X.w X.K X.mg X.base CX C m k ps sp) (hr : Room k X.A) (hx : Passes CX X E) (he : PE X o ta) (ha : PA X (e :: es) t)
    (hst : starEach (e :: es) X.env = (false, eval e X.env) :: starEach es X.env := by rfl) (hpl : (backTo pos (starEach es X.env)).any (·.1) = false := by rfl)
    (ht : eval (.Call (.Attribute o m apos) (e :: es) [] pos) X.env = (do
      let ov ← eval o X.env
      standAt apos.atName
      let (f, first) ← holding [ov] (getMethod ov m pl)
      callWith pos f first (backTo pos (starEach (e :: es) X.env)) (backToKw pos (keywordEach [] X.env))) := by rfl) :
    PE X (.Call (.Attribute o m apos) (e :: es) [] pos) (tMeth C m sp [] E ta t) := by
  obtain ⟨f, fd, c, hm, hb, F⟩ := h
  exact pe_meth he c hm F hr hb .nil hx ha hst hpl ht
theorem mcall0 {pl : Sem Bool} (h : OkM X.prog X.w X.K X.mg X.base CX C m k ps sp) (hr : Room k X.A) (hx : Passes CX X E) (he : PE X o ta)
    (ht : eval (.Call (.Attribute o m apos) [] [] pos) X.env = (do
      let ov ← eval o X.env
      standAt apos.atName
      let (f, first) ← holding [ov] (getMethod ov m pl)
      callWith pos f first (backTo pos (starEach [] X.env)) (backToKw pos (keywordEach [] X.env))) := by rfl) :
    PE X (.Call (.Attribute o m apos) [] [] pos) (tMeth C m sp [] E ta tNil) := by
  obtain ⟨f, fd, c, hm, hb, F⟩ := h
  exact pe_meth0 he c hm F hr hb .nil hx ht
theorem ccall (h : OkC X.prog X.w X.K X.mg X.base CX C x k ps sp) (hr : Room (k + 1) X.A) (hx : Passes CX X E) (ha : PA X (e :: es) t) (hg : Gl X x := by rfl)
    (hdb : (x == ("__debug__" : Str)) = false := by decide) (he : starEach (e :: es) X.env = (false, eval e X.env) :: starEach es X.env := by rfl)
    (hpl : (backTo pos (starEach es X.env)).any (·.1) = false := by rfl) : PE X (.Call (.Name x p) (e :: es) [] pos) (tMake C sp [] E t) := by
  obtain ⟨f, fd, hm, M, hb, F⟩ := h
  exact pe_make M F hr hg hm hb .nil hx ha hdb he hpl
/-- the module's names -/
theorem pgI {i : Int} (h : ∃ t, X.mg x = some (.int i t)) (hg : Gl X x := by rfl) (hd : (x == ("__debug__" : Str)) = false := by decide) : PE X (.Name x pos) (tC (.int i)) := by
  obtain ⟨t, h⟩ := h
  exact pe_glob hg h ⟨t, rfl⟩ hd
theorem pgS {z : Str} (h : ∃ t, X.mg x = some (.str z t)) (hg : Gl X x := by rfl) (hd : (x == ("__debug__" : Str)) = false := by decide) : PE X (.Name x pos) (tC (.str z)) := by
  obtain ⟨t, h⟩ := h
  exact pe_glob hg h ⟨t, rfl⟩ hd
theorem pgR {a : Addr} (h : X.mg x = some (.ref a)) (hg : Gl X x := by rfl) (hd : (x == ("__debug__" : Str)) = false := by decide) : PE X (.Name x pos) (tC (.ref a)) :=
  pe_glob hg h rfl hd
end

/-! ### defs whose body asks that no repr runs around -/
structure FnG (P : Program) (w : World) (K : PySem.W.Frag) (mg : Str → Option Value) (base : Heap) (CX : CXT) (k : Nat) (f : Addr) (fd : FuncData) (ps : List Str) (sp : Sp) : Prop where
  len : ∀ vs H Q E, sp vs H Q E → vs.length = ps.length
  run : ∀ (A : Around) (outer : List Env) (s : Shared) (H : Hp) (args : Args) (us : List Value) (vs : List V) (Q : VK) (E : XK), A.guards = some [] → Room k A →
    Env0 P w K mg base A outer s H → BindsTo s fd args (ps.zip us) → Vals vs us → sp vs H Q E → codeAny (model P w) A (.call (.ref f) args) (CR CX outer P w H s Q E) s
def OkG (P : Program) (w : World) (K : PySem.W.Frag) (mg : Str → Option Value) (base : Heap) (CX : CXT) (x : Str) (k : Nat) (ps : List Str) (sp : Sp) : Prop :=
  ∃ (f : Addr) (fd : FuncData), mg x = some (.ref f) ∧ PySem.W.keepIn K (.ref f) = true ∧ Binds K fd ps [] ∧ FnG P w K mg base CX k f fd ps sp
section
variable {X : Cx} {CX : CXT} {k : Nat} {C f : Addr} {fd : FuncData} {ps : List Str} {sp : Sp} {E : XK} {x m : Str} {p pos apos : Pos} {e o : Expr} {es : List Expr} {ta : TE} {t : TA} {ds : List Value}
theorem run_fnG {pins : List (Addr × Obj)} {σ : L2.St} {H : Hp} {s : Shared} {Q : VK} {us : List Value} {vs : List V} (F : FnG X.prog X.w X.K X.mg X.base CX k f fd ps sp)
    (hgd : X.A.guards = some []) (hr : Room k X.A) (hb : Binds X.K fd ps []) (hx : Passes CX X E) (I : Inv X pins σ H s) (r : Vals vs us) (h : sp vs H Q E) :
    wpAny (model X.prog X.w) X.A (call (.ref f) us) (EP X pins σ Q) X.xe s := by
  have hl : (us ++ ([] : List Value)).length = ps.length := by
    rw [List.append_nil, ← r.length]
    exact F.len _ _ _ _ h
  have b := hb s us I.kIn hl
  rw [List.append_nil] at b
  refine wpAny_call (codeAny_mono (F.run X.A X.stack s H ⟨us, []⟩ us vs Q E hgd hr I.env0 b r h) fun r s' hq => ?_)
  match r, hq with
  | .error e, hq => exact hx pins σ H s e s' I hq
  | .ok (.ret u), hq => exact I.after hq
  | .ok .next, hq => exact hq.elim
  | .ok .brk, hq => exact hq.elim
  | .ok .cont, hq => exact hq.elim
theorem gcall (h : OkG X.prog X.w X.K X.mg X.base CX x k ps sp) (hgd : X.A.guards = some []) (hr : Room k X.A) (hx : Passes CX X E) (ha : PA X (e :: es) t) (hg : Gl X x := by rfl)
    (hdb : (x == ("__debug__" : Str)) = false := by decide) (he : starEach (e :: es) X.env = (false, eval e X.env) :: starEach es X.env := by rfl)
    (hpl : (backTo pos (starEach es X.env)).any (·.1) = false := by rfl) : PE X (.Call (.Name x p) (e :: es) [] pos) (tCall sp [] E t) := by
  obtain ⟨f, fd, hm, hk, hb, F⟩ := h
  refine ⟨fun pins s σ H Q I h => ?_⟩
  refine wpAny_Call_Name_kw (ld_glob I hg hm ?_ hdb)
  refine PySem.W.callWith_K (h₀ := X.base) I.ok.mod.kin hk (thn (ha.run pos pins s σ H _ I h) fun us s1 ⟨vs, H1, I1, r, q⟩ => ⟨I1.kIn, ?_⟩) he hpl
  have q2 : sp (vs ++ []) H1 Q E := q
  rw [List.append_nil] at q2
  exact run_fnG F hgd hr hb hx I1 r q2
end
theorem fn_ofG {CX : CXT} {P : Program} {w : World} {K : PySem.W.Frag} {mg : Str → Option Value} {base : Heap} {k : Nat} {f : Addr} {name qual : Str} {params : Arguments} {body : List Stmt}
    {scope : Scope} {dvs : List V} {kws : List (Str × V)} {fd : FuncData} {N ps : List Str} {sp : Sp} (F : FunD K name qual params body scope dvs kws f fd) (S : FnScope N ps scope)
    (len : ∀ vs H Q E, sp vs H Q E → vs.length = ps.length)
    (hbody : ∀ (cdv : Value) (A : Around) (outer : List Env) (s : Shared) (H : Hp) (vs : List V) (Q : VK) (E : XK), (A.deeper (envOfC qual scope s.heap.objs.size f cdv)).guards = some [] →
      Room k (A.deeper (envOfC qual scope s.heap.objs.size f cdv)) → sp vs H Q E →
      ∃ t, PSs (cxOf CX P w K mg base N qual scope f cdv A outer s H E) body t ∧ t { nx := fun _ H' => Q .non H', rt := Q } (start N vs) H) :
    FnG P w K mg base CX (k + 1) f fd ps sp := by
  obtain ⟨oc, od, dV, kV, doc, pm, an, cdv, ct, osl, rfl, lk, hcd, _, _⟩ := F.ex
  refine ⟨len, fun A outer s H args us vs Q E hgd hr e0 hb r hsp => ?_⟩
  have hl := len _ _ _ _ hsp
  have KX : K.In s.heap := e0.mod.kin.keeps fun b o e => (e0.bs b o e).1
  have lim : s.heap.NoLimit := e0.mod.nolimit.keeps fun b o e => (e0.bs b o e).1
  have hkind : ∀ y ∈ ps.zip us, scope.names.lookup y.1 = some .local ∨ (scope.names.lookup y.1 = some .cell ∧ ((cellsFrom (s.heap.objs.size + 1) scope.names []).lookup y.1).isSome = true) := by
    rintro ⟨n, v⟩ hy
    exact (S.par n (List.of_mem_zip hy).1).imp id fun q => ⟨q, PySem.W.cellsFrom_some _ _ _ (.inl q)⟩
  refine codeAny_call_function hr.depth (KX _ _ lk) rfl S.co S.gen rfl (PySem.W.codeRec_of KX hcd) (hb _ _ _ _ ?_)
  refine wpAny_newFunctionEnv_cells S.kind hkind fun env he s1 x => ?_
  subst he
  refine ⟨lim.keeps x.toInCall.keep, codeAny_func ?_⟩
  obtain ⟨t, ht, hq⟩ := hbody cdv A outer s H vs Q E hgd (hr.deeper _) hsp
  refine wpAny_mono (ht.run [] s1 (start N vs) H _ (inv_start S hr.hd e0 hl r x) hq) (fun fl s' hs => ?_) fun e s' hs => hs
  match fl, hs with
  | .ret u, ⟨v, σ', H', J, rv, q⟩ => exact ⟨v, H', J.os, J.bare, J.base, J.hok, rv, q⟩
  | .next, ⟨σ', H', J, q⟩ => exact ⟨V.non, H', J.os, J.bare, J.base, J.hok, rfl, q⟩
  | .brk, ⟨_, _, _, q⟩ => exact q.elim
  | .cont, ⟨_, _, _, q⟩ => exact q.elim
end Vl
namespace Vl
open PySem PySem.Spec PyProof.Rows L2
section
variable {P : Program} {w : World} {K : PySem.W.Frag} {mg : Str → Option Value} {base : Heap}
/-- how its arguments bind: every parameter is given -/
def BindW (x q : Str) (st : Stmt) (ps : List Str) : Prop := ∀ (kV doc pm : Value) (an : Option Addr) (cdv ct : Value) (us : List Value), us.length = ps.length →
  bindArgs (PySem.W.fnOf x q (defArgs st) (defBody st) (defScope st) .none kV doc pm an cdv ct) ⟨us, []⟩ = pure (ps.zip us)
abbrev FunT (K : PySem.W.Frag) (x q : Str) (st : Stmt) (f : Addr) : Prop := ∃ fd, FunD K x q (defArgs st) (defBody st) (defScope st) [] [] f fd
theorem FunT.binds {x q : Str} {st : Stmt} {f : Addr} {fd : FuncData} {ps : List Str} (F : FunD K x q (defArgs st) (defBody st) (defScope st) [] [] f fd) (b : BindW x q st ps) : Binds K fd ps [] := F.bindsN b
theorem mkF {CX : CXT} {x x' q : Str} {st : Stmt} {f : Addr} {N ps : List Str} {k : Nat} {sp : Sp} (d : FunT K x' q st f) (g : mg x = some (.ref f)) (S : FnScope N ps (defScope st)) (b : BindW x' q st ps)
    (len : ∀ vs H Q E, sp vs H Q E → vs.length = ps.length)
    (hbody : ∀ (cdv : Value) (A : Around) (outer : List Env) (s : Shared) (H : Hp) (vs : List V) (Q : VK) (E : XK), Room k (A.deeper (envOfC q (defScope st) s.heap.objs.size f cdv)) → sp vs H Q E →
      ∃ t, PSs (cxOf CX P w K mg base N q (defScope st) f cdv A outer s H E) (defBody st) t ∧ t { nx := fun _ H' => Q .non H', rt := Q } (start N vs) H) : OkF P w K mg base CX x (k + 1) ps sp := by
  obtain ⟨fd, F⟩ := d
  exact ⟨f, fd, g, F.kp, FunT.binds F b, F.ok S len hbody⟩
theorem mkM {CX : CXT} {C : Addr} {x' q : Str} {st : Stmt} {f : Addr} {N ps : List Str} {k : Nat} {sp : Sp} (d : FunT K x' q st f) (c : Cls K C) (m : Meth K C x' f) (S : FnScope N ps (defScope st)) (b : BindW x' q st ps)
    (len : ∀ vs H Q E, sp vs H Q E → vs.length = ps.length)
    (hbody : ∀ (cdv : Value) (A : Around) (outer : List Env) (s : Shared) (H : Hp) (vs : List V) (Q : VK) (E : XK), Room k (A.deeper (envOfC q (defScope st) s.heap.objs.size f cdv)) → sp vs H Q E →
      ∃ t, PSs (cxOf CX P w K mg base N q (defScope st) f cdv A outer s H E) (defBody st) t ∧ t { nx := fun _ H' => Q .non H', rt := Q } (start N vs) H) : OkM P w K mg base CX C x' (k + 1) ps sp := by
  obtain ⟨fd, F⟩ := d
  exact ⟨f, fd, c, m, FunT.binds F b, F.ok S len hbody⟩
theorem mkC {CX : CXT} {C : Addr} {x x' q : Str} {st : Stmt} {f : Addr} {N ps : List Str} {k : Nat} {sp : Sp} (d : FunT K x' q st f) (g : mg x = some (.ref C)) (M : Mk K C f) (S : FnScope N ps (defScope st)) (b : BindW x' q st ps)
    (len : ∀ vs H Q E, sp vs H Q E → vs.length = ps.length)
    (hbody : ∀ (cdv : Value) (A : Around) (outer : List Env) (s : Shared) (H : Hp) (vs : List V) (Q : VK) (E : XK), Room k (A.deeper (envOfC q (defScope st) s.heap.objs.size f cdv)) → sp vs H Q E →
      ∃ t, PSs (cxOf CX P w K mg base N q (defScope st) f cdv A outer s H E) (defBody st) t ∧ t { nx := fun _ H' => Q .non H', rt := Q } (start N vs) H) : OkC P w K mg base CX C x (k + 1) ps sp := by
  obtain ⟨fd, F⟩ := d
  exact ⟨f, fd, g, M, FunT.binds F b, F.ok S len hbody⟩
theorem mkG {CX : CXT} {x x' q : Str} {st : Stmt} {f : Addr} {N ps : List Str} {k : Nat} {sp : Sp} (d : FunT K x' q st f) (g : mg x = some (.ref f)) (S : FnScope N ps (defScope st)) (b : BindW x' q st ps)
    (len : ∀ vs H Q E, sp vs H Q E → vs.length = ps.length)
    (hbody : ∀ (cdv : Value) (A : Around) (outer : List Env) (s : Shared) (H : Hp) (vs : List V) (Q : VK) (E : XK), (A.deeper (envOfC q (defScope st) s.heap.objs.size f cdv)).guards = some [] →
      Room k (A.deeper (envOfC q (defScope st) s.heap.objs.size f cdv)) → sp vs H Q E →
      ∃ t, PSs (cxOf CX P w K mg base N q (defScope st) f cdv A outer s H E) (defBody st) t ∧ t { nx := fun _ H' => Q .non H', rt := Q } (start N vs) H) : OkG P w K mg base CX x (k + 1) ps sp := by
  obtain ⟨fd, F⟩ := d
  exact ⟨f, fd, g, F.kp, FunT.binds F b, fn_ofG F S len hbody⟩
end
end Vl
set_option Elab.async false
set_option linter.all false
set_option maxRecDepth 100000
set_option maxHeartbeats 4000000
namespace Vl
open PySem PySem.Spec PyProof.Rows L2
/-! ### the readings, applied -/
section
variable {D : Ends} {H : Hp} {Q : VK} {QA : List V → Hp → Prop} {QB : Bool → Hp → Prop} {σ : L2.St} {K : PySem.W.Frag}
theorem a_seq (t u : TS) : tSeq t u D σ H = t { D with nx := u D } σ H := rfl
theorem a_next : tNext D σ H = D.nx σ H := rfl
theorem a_asg (te : TE) (g : TG) : tAsg te g D σ H = te σ H fun x H1 => g x σ H1 D.nx := rfl
theorem a_ret (te : TE) : tRet te D σ H = te σ H D.rt := rfl
theorem a_retN : tRetN D σ H = D.rt .non H := rfl
theorem a_drop (te : TE) : tDrop te D σ H = te σ H fun _ H1 => D.nx σ H1 := rfl
theorem a_ifS (c : TT) (t u : TS) : tIfS c t u D σ H = c σ H fun b H1 => if b = true then t D σ H1 else u D σ H1 := rfl
theorem a_break : tBreak D σ H = D.bk σ H := rfl
theorem a_cont : tCont D σ H = D.ct σ H := rfl
theorem a_never : tNever D σ H = False := rfl
theorem a_c (v : V) : tC v σ H Q = Q v H := rfl
theorem a_op (r : R2) (ta tb : TE) : tOp r ta tb σ H Q = ta σ H fun x H1 => tb σ H1 fun y H2 => r x y H2 Q := rfl
theorem a_un (r : V → Hp → VK → Prop) (ta : TE) : tUn r ta σ H Q = ta σ H fun x H1 => r x H1 Q := rfl
theorem a_nil : tNil σ H QA = QA [] H := rfl
theorem a_cons (te : TE) (tr : TA) : tCons te tr σ H QA = te σ H fun x H1 => tr σ H1 fun xs H2 => QA (x :: xs) H2 := rfl
theorem a_tup (t : TA) : tTup t σ H Q = t σ H fun xs H1 => xs.length ≤ sizeLine ∧ ∀ p, H1 p = none → Q (.ref p) (upd H1 p (.tup xs)) := rfl
theorem a_lst (t : TA) : tLst t σ H Q = t σ H fun xs H1 => xs.length ≤ sizeLine ∧ ∀ p, H1 p = none → Q (.ref p) (upd H1 p (.lst xs)) := rfl
theorem a_call (sp : Sp) (E : XK) (t : TA) : tCall sp [] E t σ H Q = t σ H fun vs H1 => sp vs H1 Q E := by
  unfold tCall
  simp only [List.append_nil]
theorem a_meth (C : Addr) (m : Str) (sp : Sp) (E : XK) (ta : TE) (t : TA) : tMeth C m sp [] E ta t σ H Q = ta σ H fun x H1 => ∃ a dx fs, x = .ref a ∧ H1 a = some (.ins C dx fs) ∧ fs.lookup m = none ∧
    t σ H1 fun vs H2 => sp (x :: vs) H2 Q E := by
  unfold tMeth
  simp only [List.append_nil]
theorem a_make (C : Addr) (sp : Sp) (E : XK) (t : TA) : tMake C sp [] E t σ H Q = t σ H fun vs H1 => ∀ x dx, H1 x = none → H1 dx = none → dx ≠ x →
    sp (.ref x :: vs) (upd (upd H1 dx (.own x)) x (.ins C dx [])) (fun v H2 => v = .non ∧ Q (.ref x) H2) E := by
  unfold tMake
  simp only [List.append_nil]
theorem a_cb (r : List V → Hp → VK → Prop) (t : TA) : tCB r t σ H Q = t σ H fun vs H1 => r vs H1 Q := rfl
theorem a_bm0 (T : String) (r : V → List V → Hp → VK → Prop) (to : TE) : tBM0 K T r to σ H Q = to σ H fun x H1 => tyV K T x H1 ∧ r x [] H1 Q := rfl
theorem a_bm (T : String) (r : V → List V → Hp → VK → Prop) (to : TE) (t : TA) : tBM K T r to t σ H Q = to σ H fun x H1 => tyV K T x H1 ∧ t σ H1 fun xs H2 => r x xs H2 Q := rfl
theorem a_fld (ta : TE) (f : Str) : tFld K ta f σ H Q = ta σ H fun x H1 => ∃ a C dx fs v, x = .ref a ∧ H1 a = some (.ins C dx fs) ∧ Cls K C ∧ NoAttr K C f ∧ fs.lookup f = some v ∧ Q v H1 := rfl
theorem a_sfld (ta tv : TE) (f : Str) : sFld K ta tv f D σ H = tv σ H fun y H1 => ta σ H1 fun x H2 => ∃ a C dx fs, x = .ref a ∧ H2 a = some (.ins C dx fs) ∧ Cls K C ∧ NoAttr K C f ∧ fs.length < 1000 ∧
    D.nx σ (upd H2 a (.ins C dx (putF f y fs))) := rfl
theorem a_test (t : TE) : tTest t σ H QB = t σ H fun x H' => ∃ k, x = .bl k ∧ QB k H' := rfl
theorem a_tB (t : TE) : tB t σ H QB = t σ H fun x H' => ∃ k, x = .bl k ∧ QB k H' := rfl
theorem a_and (t u : TT) : tAnd t u σ H QB = t σ H fun c H1 => if c = true then u σ H1 QB else QB false H1 := rfl
theorem a_or (t u : TT) : tOr t u σ H QB = t σ H fun c H1 => if c = true then QB true H1 else u σ H1 QB := rfl
theorem a_not (t : TT) : tNot t σ H QB = t σ H fun c H1 => QB (!c) H1 := rfl
theorem a_if (t : TT) (ta tb : TE) : tIf t ta tb σ H Q = t σ H fun c H1 => if c = true then ta σ H1 Q else tb σ H1 Q := rfl
theorem a_sl (r : V → Option Int → Option Int → Hp → VK → Prop) (te : TE) (tl th : TO) : tSl r te tl th σ H Q = te σ H fun x H1 => tl σ H1 fun l H2 => th σ H2 fun u H3 => r x l u H3 Q := rfl
theorem a_noPart {QO : Option Int → Hp → Prop} : tNoPart σ H QO = QO none H := rfl
theorem a_part {QO : Option Int → Hp → Prop} (t : TE) : tPart t σ H QO = t σ H fun x H1 => ∃ i, x = .int i ∧ QO (some i) H1 := rfl
theorem cxK {CX : CXT} {P : Program} {w : World} {mg : Str → Option Value} {base : Heap} {N : List Str} {q : Str} {sc : Scope} {f : Addr} {cd : Value} {A : Around} {outer : List Env} {s : Shared} {E : XK} :
    (cxOf CX P w K mg base N q sc f cd A outer s H E).K = K := rfl
/-! slots -/
variable {x0 x1 x2 x3 x4 x5 x6 x7 x8 x9 : Option V} {r : List (Option V)} {v : V}
theorem vr (i : Nat) (h : σ[i]? = some (some v)) : tVar i σ H Q = Q v H := by
  unfold tVar
  rw [h]
  exact propext ⟨fun ⟨u, e, q⟩ => by
    cases Option.some.inj (Option.some.inj e)
    exact q, fun q => ⟨v, rfl, q⟩⟩
theorem v0 : tVar 0 (some v :: r) H Q = Q v H := vr 0 rfl
theorem v1 : tVar 1 (x0 :: some v :: r) H Q = Q v H := vr 1 rfl
theorem v2 : tVar 2 (x0 :: x1 :: some v :: r) H Q = Q v H := vr 2 rfl
theorem v3 : tVar 3 (x0 :: x1 :: x2 :: some v :: r) H Q = Q v H := vr 3 rfl
theorem v4 : tVar 4 (x0 :: x1 :: x2 :: x3 :: some v :: r) H Q = Q v H := vr 4 rfl
theorem v5 : tVar 5 (x0 :: x1 :: x2 :: x3 :: x4 :: some v :: r) H Q = Q v H := vr 5 rfl
theorem v6 : tVar 6 (x0 :: x1 :: x2 :: x3 :: x4 :: x5 :: some v :: r) H Q = Q v H := vr 6 rfl
theorem v7 : tVar 7 (x0 :: x1 :: x2 :: x3 :: x4 :: x5 :: x6 :: some v :: r) H Q = Q v H := vr 7 rfl
theorem v8 : tVar 8 (x0 :: x1 :: x2 :: x3 :: x4 :: x5 :: x6 :: x7 :: some v :: r) H Q = Q v H := vr 8 rfl
theorem v9 : tVar 9 (x0 :: x1 :: x2 :: x3 :: x4 :: x5 :: x6 :: x7 :: x8 :: some v :: r) H Q = Q v H := vr 9 rfl
theorem v10 : tVar 10 (x0 :: x1 :: x2 :: x3 :: x4 :: x5 :: x6 :: x7 :: x8 :: x9 :: some v :: r) H Q = Q v H := vr 10 rfl
variable {QS : L2.St → Hp → Prop}
theorem n0 : gName 0 v (x0 :: r) H QS = QS (some v :: r) H := rfl
theorem n1 : gName 1 v (x0 :: x1 :: r) H QS = QS (x0 :: some v :: r) H := rfl
theorem n2 : gName 2 v (x0 :: x1 :: x2 :: r) H QS = QS (x0 :: x1 :: some v :: r) H := rfl
theorem n3 : gName 3 v (x0 :: x1 :: x2 :: x3 :: r) H QS = QS (x0 :: x1 :: x2 :: some v :: r) H := rfl
theorem n4 : gName 4 v (x0 :: x1 :: x2 :: x3 :: x4 :: r) H QS = QS (x0 :: x1 :: x2 :: x3 :: some v :: r) H := rfl
theorem n5 : gName 5 v (x0 :: x1 :: x2 :: x3 :: x4 :: x5 :: r) H QS = QS (x0 :: x1 :: x2 :: x3 :: x4 :: some v :: r) H := rfl
theorem n6 : gName 6 v (x0 :: x1 :: x2 :: x3 :: x4 :: x5 :: x6 :: r) H QS = QS (x0 :: x1 :: x2 :: x3 :: x4 :: x5 :: some v :: r) H := rfl
theorem n7 : gName 7 v (x0 :: x1 :: x2 :: x3 :: x4 :: x5 :: x6 :: x7 :: r) H QS = QS (x0 :: x1 :: x2 :: x3 :: x4 :: x5 :: x6 :: some v :: r) H := rfl
theorem n8 : gName 8 v (x0 :: x1 :: x2 :: x3 :: x4 :: x5 :: x6 :: x7 :: x8 :: r) H QS = QS (x0 :: x1 :: x2 :: x3 :: x4 :: x5 :: x6 :: x7 :: some v :: r) H := rfl
theorem n9 : gName 9 v (x0 :: x1 :: x2 :: x3 :: x4 :: x5 :: x6 :: x7 :: x8 :: x9 :: r) H QS = QS (x0 :: x1 :: x2 :: x3 :: x4 :: x5 :: x6 :: x7 :: x8 :: some v :: r) H := rfl
theorem n10 {y : Option V} : gName 10 v (x0 :: x1 :: x2 :: x3 :: x4 :: x5 :: x6 :: x7 :: x8 :: x9 :: y :: r) H QS = QS (x0 :: x1 :: x2 :: x3 :: x4 :: x5 :: x6 :: x7 :: x8 :: x9 :: some v :: r) H := rfl
/-! values -/
variable {i j : Int} {x y : Str} {b c : Bool}
theorem i_0 (g : Int → Int → V) : rI0 g (.int i) (.int j) H Q = Q (g i j) H := by
  unfold rI0
  exact propext ⟨fun ⟨i', j', e1, e2, q⟩ => by
    cases e1
    cases e2
    exact q, fun q => ⟨i, j, rfl, rfl, q⟩⟩
theorem i_c (C : Int → Int → Prop) (g : Int → Int → V) : rI C g (.int i) (.int j) H Q = (C i j ∧ Q (g i j) H) := by
  unfold rI
  exact propext ⟨fun ⟨i', j', e1, e2, q⟩ => by
    cases e1
    cases e2
    exact q, fun q => ⟨i, j, rfl, rfl, q⟩⟩
theorem i_u (g : Int → V) : rU g (.int i) H Q = Q (g i) H := by
  unfold rU
  exact propext ⟨fun ⟨i', e1, q⟩ => by
    cases e1
    exact q, fun q => ⟨i, rfl, q⟩⟩
theorem e_i : rEq (.int i) (.int j) H Q = Q (.bl (decide (i = j))) H := by
  unfold rEq
  simp only [scal, V.int.injEq, true_and]
theorem e_s : rEq (.str x) (.str y) H Q = Q (.bl (decide (x = y))) H := by
  unfold rEq
  simp only [scal, V.str.injEq, true_and]
theorem e_b : rEq (.bl b) (.bl c) H Q = Q (.bl (decide (b = c))) H := by
  unfold rEq
  simp only [scal, V.bl.injEq, true_and]
theorem e_n : rEq .non .non H Q = Q (.bl true) H := by
  unfold rEq
  simp only [scal, true_and, decide_true]
theorem ne_i : rNe (.int i) (.int j) H Q = Q (.bl (!decide (i = j))) H := by
  unfold rNe
  simp only [scal, V.int.injEq, true_and]
theorem ne_s : rNe (.str x) (.str y) H Q = Q (.bl (!decide (x = y))) H := by
  unfold rNe
  simp only [scal, V.str.injEq, true_and]
theorem ne_b : rNe (.bl b) (.bl c) H Q = Q (.bl (!decide (b = c))) H := by
  unfold rNe
  simp only [scal, V.bl.injEq, true_and]
theorem tst (P : Bool → Prop) : (∃ k, V.bl b = V.bl k ∧ P k) = P b :=
  propext ⟨fun ⟨k, e, q⟩ => by
    cases e
    exact q, fun q => ⟨b, rfl, q⟩⟩
theorem tsi (P : Int → Prop) : (∃ k, V.int i = V.int k ∧ P k) = P i :=
  propext ⟨fun ⟨k, e, q⟩ => by
    cases e
    exact q, fun q => ⟨i, rfl, q⟩⟩
theorem tss (P : Str → Prop) : (∃ k, V.str x = V.str k ∧ P k) = P x :=
  propext ⟨fun ⟨k, e, q⟩ => by
    cases e
    exact q, fun q => ⟨x, rfl, q⟩⟩
theorem tsr {a : Addr} (P : Addr → Prop) : (∃ k, V.ref a = V.ref k ∧ P k) = P a :=
  propext ⟨fun ⟨k, e, q⟩ => by
    cases e
    exact q, fun q => ⟨a, rfl, q⟩⟩
/-- a field of an object whose class is known -/
theorem fldr {a C dx : Addr} {fs : List (Str × V)} {f : Str} {u : V} (h : H a = some (.ins C dx fs)) (hc : Cls K C) (hn : NoAttr K C f) (hl : fs.lookup f = some u) (q : Q u H) :
    ∃ a' C' dx' fs' v, V.ref a = .ref a' ∧ H a' = some (.ins C' dx' fs') ∧ Cls K C' ∧ NoAttr K C' f ∧ fs'.lookup f = some v ∧ Q v H := ⟨a, C, dx, fs, u, rfl, h, hc, hn, hl, q⟩
/-! methods of lists -/
theorem m_app {l : Addr} {xs : List V} {u : V} (h : H l = some (.lst xs)) (hz : xs.length < sizeLine) (q : Q .non (upd H l (.lst (xs ++ [u])))) : rAppend (.ref l) [u] H Q :=
  ⟨l, xs, u, rfl, rfl, h, hz, q⟩
theorem m_ext {l l2 : Addr} {xs ys : List V} (h : H l = some (.lst xs)) (h2 : H l2 = some (.lst ys)) (hz : xs.length + ys.length ≤ sizeLine) (q : Q .non (upd H l (.lst (xs ++ ys)))) : rExtend (.ref l) [.ref l2] H Q :=
  ⟨l, l2, xs, ys, rfl, rfl, h, h2, hz, q⟩
theorem m_cat {l l2 : Addr} {xs ys : List V} (h : H l = some (.lst xs)) (h2 : H l2 = some (.lst ys)) (hz : xs.length + ys.length ≤ sizeLine) (q : ∀ p, H p = none → Q (.ref p) (upd H p (.lst (xs ++ ys)))) : rCat (.ref l) (.ref l2) H Q :=
  ⟨l, l2, xs, ys, rfl, rfl, h, h2, hz, q⟩
theorem ty_lst {l : Addr} {xs : List V} (h : SqL K H l xs) : tyV K "list" (.ref l) H := .inl ⟨rfl, _, h⟩
theorem ix_l {a : Addr} {xs : List V} {u : V} (h : SqL K H a xs) (hi : atI xs i = some u) (q : Q u H) : rIxL K (.ref a) (.int i) H Q := ⟨a, xs, i, u, rfl, rfl, h, hi, q⟩
theorem ix_t {a : Addr} {xs : List V} {u : V} (h : SqT K H a xs) (hi : atI xs i = some u) (q : Q u H) : rIxT K (.ref a) (.int i) H Q := ⟨a, xs, i, u, rfl, rfl, h, hi, q⟩
end
/-! promises by their number of arguments -/
def Sp0 (f : Hp → VK → XK → Prop) : Sp := fun vs H Q E => vs = [] ∧ f H Q E
def Sp1 (f : V → Hp → VK → XK → Prop) : Sp := fun vs H Q E => ∃ a, vs = [a] ∧ f a H Q E
def Sp2 (f : V → V → Hp → VK → XK → Prop) : Sp := fun vs H Q E => ∃ a b, vs = [a, b] ∧ f a b H Q E
def Sp3 (f : V → V → V → Hp → VK → XK → Prop) : Sp := fun vs H Q E => ∃ a b c, vs = [a, b, c] ∧ f a b c H Q E
def Sp4 (f : V → V → V → V → Hp → VK → XK → Prop) : Sp := fun vs H Q E => ∃ a b c d, vs = [a, b, c, d] ∧ f a b c d H Q E
def Sp5 (f : V → V → V → V → V → Hp → VK → XK → Prop) : Sp := fun vs H Q E => ∃ a b c d e, vs = [a, b, c, d, e] ∧ f a b c d e H Q E
section
variable {H : Hp} {Q : VK} {E : XK} {a b c d e : V}
theorem s0 (f : Hp → VK → XK → Prop) : Sp0 f [] H Q E = f H Q E := propext ⟨fun ⟨_, q⟩ => q, fun q => ⟨rfl, q⟩⟩
theorem s1 (f : V → Hp → VK → XK → Prop) : Sp1 f [a] H Q E = f a H Q E := propext ⟨fun ⟨_, z, q⟩ => by
  cases z
  exact q, fun q => ⟨_, rfl, q⟩⟩
theorem s2 (f : V → V → Hp → VK → XK → Prop) : Sp2 f [a, b] H Q E = f a b H Q E := propext ⟨fun ⟨_, _, z, q⟩ => by
  cases z
  exact q, fun q => ⟨_, _, rfl, q⟩⟩
theorem s3 (f : V → V → V → Hp → VK → XK → Prop) : Sp3 f [a, b, c] H Q E = f a b c H Q E := propext ⟨fun ⟨_, _, _, z, q⟩ => by
  cases z
  exact q, fun q => ⟨_, _, _, rfl, q⟩⟩
theorem s4 (f : V → V → V → V → Hp → VK → XK → Prop) : Sp4 f [a, b, c, d] H Q E = f a b c d H Q E := propext ⟨fun ⟨_, _, _, _, z, q⟩ => by
  cases z
  exact q, fun q => ⟨_, _, _, _, rfl, q⟩⟩
theorem s5 (f : V → V → V → V → V → Hp → VK → XK → Prop) : Sp5 f [a, b, c, d, e] H Q E = f a b c d e H Q E := propext ⟨fun ⟨_, _, _, _, _, z, q⟩ => by
  cases z
  exact q, fun q => ⟨_, _, _, _, _, rfl, q⟩⟩
theorem l0 {f} {vs : List V} (h : Sp0 f vs H Q E) : vs.length = 0 := by
  rw [h.1]
  rfl
theorem l1 {f} {vs : List V} (h : Sp1 f vs H Q E) : vs.length = 1 := by
  obtain ⟨_, z, _⟩ := h
  rw [z]
  rfl
theorem l2 {f} {vs : List V} (h : Sp2 f vs H Q E) : vs.length = 2 := by
  obtain ⟨_, _, z, _⟩ := h
  rw [z]
  rfl
theorem l3 {f} {vs : List V} (h : Sp3 f vs H Q E) : vs.length = 3 := by
  obtain ⟨_, _, _, z, _⟩ := h
  rw [z]
  rfl
theorem l4 {f} {vs : List V} (h : Sp4 f vs H Q E) : vs.length = 4 := by
  obtain ⟨_, _, _, _, z, _⟩ := h
  rw [z]
  rfl
theorem l5 {f} {vs : List V} (h : Sp5 f vs H Q E) : vs.length = 5 := by
  obtain ⟨_, _, _, _, _, z, _⟩ := h
  rw [z]
  rfl
end
end Vl
namespace Vl
open PySem PySem.Spec PyProof.Rows L2
theorem Same.put {H H1 : Hp} {p : Addr} {o : HO} (s : Same H H1) (n : H p = none) : Same H (upd H1 p o) := fun b u e => by
  rw [upd_ne (ne_of_none e n)]
  exact s b u e
theorem Same.new {H : Hp} {p : Addr} {o : HO} (n : H p = none) : Same H (upd H p o) := Same.put (Same.refl H) n
end Vl
set_option Elab.async false
set_option linter.all false
set_option maxRecDepth 100000
set_option maxHeartbeats 4000000
namespace Vl
open PySem PySem.Spec PyProof.Rows L2
/-! ### written texts are told apart -/
theorem toNat_inj {c d : Char} (h : c.toNat = d.toNat) : c = d := Char.ext (UInt32.toNat_inj.mp h)
theorem map_toNat_inj : ∀ {l m : List Char}, l.map Char.toNat = m.map Char.toNat → l = m
  | [], [], _ => rfl
  | [], _ :: _, h => by simp at h
  | _ :: _, [], h => by simp at h
  | c :: l, d :: m, h => by
    simp only [List.map_cons, List.cons.injEq] at h
    rw [toNat_inj h.1, map_toNat_inj h.2]
theorem ofS {a b : String} : (Str.ofString a = Str.ofString b) = (a = b) := propext ⟨fun h => by
  rw [Str.ofString_eq_toList, Str.ofString_eq_toList] at h
  injection h with h
  have h2 : a.toList.map Char.toNat = b.toList.map Char.toNat := by simpa using congrArg Array.toList h
  exact String.toList_inj.mp (map_toNat_inj h2), fun h => by rw [h]⟩
/-! ### data of tuples, read -/
section
variable {K : PySem.W.Frag} {H H' : Hp} {v : V} {d d1 d2 d3 d4 d5 d6 : PyData} {ds : List PyData}
theorem dS {x : Str} : Dp K H v (.str x) = (v = .str x) := propext ⟨fun h => by
  cases h
  rfl, fun h => by
  rw [h]
  exact .str x⟩
theorem dI {i : Int} : Dp K H v (.int i) = (v = .int i) := propext ⟨fun h => by
  cases h
  rfl, fun h => by
  rw [h]
  exact .int i⟩
theorem dB {b : Bool} : Dp K H v (.bool b) = (v = .bl b) := propext ⟨fun h => by
  cases h
  rfl, fun h => by
  rw [h]
  exact .bl b⟩
theorem dT : Dp K H v (.tuple ds) = ∃ a xs, v = .ref a ∧ SqT K H a xs ∧ DpAll K H xs ds := propext ⟨fun h => by
  cases h with
  | tup h1 h2 => exact ⟨_, _, rfl, h1, h2⟩, fun ⟨a, xs, e, h1, h2⟩ => by
  rw [e]
  exact .tup h1 h2⟩
theorem dLst : Dp K H v (.list ds) = ∃ a xs, v = .ref a ∧ SqL K H a xs ∧ DpAll K H xs ds := propext ⟨fun h => by
  cases h with
  | lst h1 h2 => exact ⟨_, _, rfl, h1, h2⟩, fun ⟨a, xs, e, h1, h2⟩ => by
  rw [e]
  exact .lst h1 h2⟩
theorem aN {xs : List V} : DpAll K H xs [] = (xs = []) := propext ⟨fun h => by
  cases h
  rfl, fun h => by
  rw [h]
  exact .nil⟩
theorem aC {xs : List V} : DpAll K H xs (d :: ds) = ∃ v r, xs = v :: r ∧ Dp K H v d ∧ DpAll K H r ds := propext ⟨fun h => by
  cases h with
  | cons h1 h2 => exact ⟨_, _, rfl, h1, h2⟩, fun ⟨v, r, e, h1, h2⟩ => by
  rw [e]
  exact .cons h1 h2⟩
theorem dT1 (h : Dp K H v (.tuple [d1])) : ∃ a x, v = .ref a ∧ SqT K H a [x] ∧ Dp K H x d1 := by
  simp only [dT, aC, aN] at h
  obtain ⟨a, _, rfl, h, x, _, rfl, h1, rfl⟩ := h
  exact ⟨a, x, rfl, h, h1⟩
theorem dT2 (h : Dp K H v (.tuple [d1, d2])) : ∃ a x y, v = .ref a ∧ SqT K H a [x, y] ∧ Dp K H x d1 ∧ Dp K H y d2 := by
  simp only [dT, aC, aN] at h
  obtain ⟨a, _, rfl, h, x, _, rfl, h1, y, _, rfl, h2, rfl⟩ := h
  exact ⟨a, x, y, rfl, h, h1, h2⟩
theorem dT3 (h : Dp K H v (.tuple [d1, d2, d3])) : ∃ a x y z, v = .ref a ∧ SqT K H a [x, y, z] ∧ Dp K H x d1 ∧ Dp K H y d2 ∧ Dp K H z d3 := by
  simp only [dT, aC, aN] at h
  obtain ⟨a, _, rfl, h, x, _, rfl, h1, y, _, rfl, h2, z, _, rfl, h3, rfl⟩ := h
  exact ⟨a, x, y, z, rfl, h, h1, h2, h3⟩
theorem dT4 (h : Dp K H v (.tuple [d1, d2, d3, d4])) : ∃ a x y z u, v = .ref a ∧ SqT K H a [x, y, z, u] ∧ Dp K H x d1 ∧ Dp K H y d2 ∧ Dp K H z d3 ∧ Dp K H u d4 := by
  simp only [dT, aC, aN] at h
  obtain ⟨a, _, rfl, h, x, _, rfl, h1, y, _, rfl, h2, z, _, rfl, h3, u, _, rfl, h4, rfl⟩ := h
  exact ⟨a, x, y, z, u, rfl, h, h1, h2, h3, h4⟩
theorem dT6 (h : Dp K H v (.tuple [d1, d2, d3, d4, d5, d6])) : ∃ a x1 x2 x3 x4 x5 x6, v = .ref a ∧ SqT K H a [x1, x2, x3, x4, x5, x6] ∧ Dp K H x1 d1 ∧ Dp K H x2 d2 ∧ Dp K H x3 d3 ∧ Dp K H x4 d4 ∧ Dp K H x5 d5 ∧ Dp K H x6 d6 := by
  simp only [dT, aC, aN] at h
  obtain ⟨a, _, rfl, h, x1, _, rfl, h1, x2, _, rfl, h2, x3, _, rfl, h3, x4, _, rfl, h4, x5, _, rfl, h5, x6, _, rfl, h6, rfl⟩ := h
  exact ⟨a, x1, x2, x3, x4, x5, x6, rfl, h, h1, h2, h3, h4, h5, h6⟩
/-! what is made -/
theorem DpAll.length : ∀ {xs : List V} {ds : List PyData}, DpAll K H xs ds → xs.length = ds.length
  | [], [], _ => rfl
  | _, _, .cons _ h => by
    rw [List.length_cons, List.length_cons, DpAll.length h]
theorem DpAll.get : ∀ {xs : List V} {ds : List PyData} {i : Nat} {v : V}, DpAll K H xs ds → xs[i]? = some v → ∃ d, ds[i]? = some d ∧ Dp K H v d
  | _, _, i, v, .nil, e => by simp at e
  | _, _, 0, v, .cons h _, e => by
    simp at e
    subst e
    exact ⟨_, rfl, h⟩
  | _, _, i + 1, v, .cons _ h, e => DpAll.get (i := i) h (by simpa using e)
theorem DpAll.app : ∀ {xs ys : List V} {ds es : List PyData}, DpAll K H xs ds → DpAll K H ys es → DpAll K H (xs ++ ys) (ds ++ es)
  | _, _, _, _, .nil, h => h
  | _, _, _, _, .cons h1 h2, h => .cons h1 (DpAll.app h2 h)
theorem DpAll.ints : ∀ (l : List Int), DpAll K H (l.map V.int) (l.map PyData.int)
  | [] => .nil
  | i :: l => .cons (.int i) (DpAll.ints l)
/-- what is a list or a tuple stays -/
def SeqKeep (H H' : Hp) : Prop := (∀ b xs, H b = some (.lst xs) → H' b = some (.lst xs)) ∧ (∀ b xs, H b = some (.tup xs) → H' b = some (.tup xs)) ∧ ∀ b o u, H b = some (.frz o u) → H' b = some (.frz o u)
theorem SeqKeep.of (s : Same H H') : SeqKeep H H' := ⟨fun b xs h => s b _ h, fun b xs h => s b _ h, fun b o u h => s b _ h⟩
theorem SeqKeep.sqL (s : SeqKeep H H') {a : Addr} {xs : List V} (h : SqL K H a xs) : SqL K H' a xs := by
  rcases h with (h | ⟨o, h⟩) | h
  · exact .inl (.inl (s.1 _ _ h))
  · exact .inl (.inr ⟨o, s.2.2 _ _ _ h⟩)
  · exact .inr h
theorem SeqKeep.sqT (s : SeqKeep H H') {a : Addr} {xs : List V} (h : SqT K H a xs) : SqT K H' a xs := by
  rcases h with (h | ⟨o, h⟩) | h
  · exact .inl (.inl (s.2.1 _ _ h))
  · exact .inl (.inr ⟨o, s.2.2 _ _ _ h⟩)
  · exact .inr h
mutual
theorem SeqKeep.dp (s : SeqKeep H H') : ∀ {d : PyData} {v : V}, Dp K H v d → Dp K H' v d
  | _, _, .non => .non
  | _, _, .bl b => .bl b
  | _, _, .int i => .int i
  | _, _, .str x => .str x
  | _, _, .lst h1 h2 => .lst (s.sqL h1) (SeqKeep.dpAll s h2)
  | _, _, .tup h1 h2 => .tup (s.sqT h1) (SeqKeep.dpAll s h2)
theorem SeqKeep.dpAll (s : SeqKeep H H') : ∀ {ds : List PyData} {vs : List V}, DpAll K H vs ds → DpAll K H' vs ds
  | _, _, .nil => .nil
  | _, _, .cons h1 h2 => .cons (SeqKeep.dp s h1) (SeqKeep.dpAll s h2)
end
/-! the same of tuples alone: no list within, so that a list that changes does not matter -/
mutual
def noL : PyData → Bool
  | .tuple ds => noLs ds
  | .list _ => false
  | .dict _ => false
  | _ => true
def noLs : List PyData → Bool
  | [] => true
  | d :: ds => noL d && noLs ds
end
def TupKeep (H H' : Hp) : Prop := (∀ b xs, H b = some (.tup xs) → H' b = some (.tup xs)) ∧ ∀ b o u, H b = some (.frz o u) → H' b = some (.frz o u)
theorem TupKeep.sqT (s : TupKeep H H') {a : Addr} {xs : List V} (h : SqT K H a xs) : SqT K H' a xs := by
  rcases h with (h | ⟨o, h⟩) | h
  · exact .inl (.inl (s.1 _ _ h))
  · exact .inl (.inr ⟨o, s.2 _ _ _ h⟩)
  · exact .inr h
mutual
theorem TupKeep.dp (s : TupKeep H H') : ∀ {d : PyData} {v : V}, noL d = true → Dp K H v d → Dp K H' v d
  | _, _, _, .non => .non
  | _, _, _, .bl b => .bl b
  | _, _, _, .int i => .int i
  | _, _, _, .str x => .str x
  | _, _, n, .lst _ _ => by
    unfold noL at n
    cases n
  | _, _, n, .tup h1 h2 => .tup (s.sqT h1) (TupKeep.dpAll s (by
    unfold noL at n
    exact n) h2)
theorem TupKeep.dpAll (s : TupKeep H H') : ∀ {ds : List PyData} {vs : List V}, noLs ds = true → DpAll K H vs ds → DpAll K H' vs ds
  | _, _, _, .nil => .nil
  | _, _, n, .cons h1 h2 => by
    unfold noLs at n
    obtain ⟨n1, n2⟩ := Bool.and_eq_true_iff.mp n
    exact .cons (TupKeep.dp s n1 h1) (TupKeep.dpAll s n2 h2)
end
theorem TupKeep.of (s : Same H H') : TupKeep H H' := ⟨fun b xs h => s b _ h, fun b o u h => s b _ h⟩
theorem TupKeep.refl : TupKeep H H := ⟨fun _ _ h => h, fun _ _ _ h => h⟩
theorem TupKeep.trans {H1 H2 : Hp} (a : TupKeep H H1) (b : TupKeep H1 H2) : TupKeep H H2 := ⟨fun c xs h => b.1 c xs (a.1 c xs h), fun c o u h => b.2 c o u (a.2 c o u h)⟩
end
end Vl
set_option Elab.async false
set_option linter.all false
set_option maxRecDepth 100000
set_option maxHeartbeats 4000000
namespace Vl
open PySem PySem.Spec PyProof.Rows L2
/-! ### what is written: the data, their numbers -/
/-- the signs of texts by their index, the newline last -/
def sg : List Nat := [32, 33, 34, 35, 36, 38, 39, 40, 41, 42, 43, 44, 45, 46, 47, 48, 49, 50, 51, 52, 53, 54, 55, 56, 57, 58, 59, 60, 61, 62, 63, 64,
  65, 66, 67, 68, 69, 70, 71, 72, 73, 74, 75, 76, 77, 78, 79, 80, 81, 82, 83, 84, 85, 86, 87, 88, 89, 90, 91, 92, 93, 94, 95, 96,
  97, 98, 99, 100, 101, 102, 103, 104, 105, 106, 107, 108, 109, 110, 111, 112, 113, 114, 115, 116, 117, 118, 119, 120, 121, 122, 123, 124, 125, 126, 10]
def sgAt (k : Nat) : Nat := sg.getD k 0
/-- a text by the indices of its signs -/
def ofIx (ks : List Nat) : Str := ⟨(ks.map sgAt).toArray⟩
def Tx (ks : List Nat) : Prop := ∀ k ∈ ks, k < 94
/-- a text of letters -/
def Tl (ks : List Nat) : Prop := ∀ k ∈ ks, 64 ≤ k ∧ k < 90
/-- a text of signs and newlines -/
def Tn (ks : List Nat) : Prop := ∀ k ∈ ks, k < 95
def vints (l : List Int) : List V := l.map V.int
def nat (k : Nat) : Int := (k : Int)
/-- the digits of a count -/
def cntd (n : Nat) : List Int := if n < 128 then [(n : Int)] else (128 + (n % 128 : Nat) : Int) :: cntd (n / 128)
termination_by n
structure DRef where
  p : Bool
  v : Nat
  n : Nat
  deriving DecidableEq
structure DWt where
  m : Nat
  e : Nat
structure DSd where
  v : Nat
  n : Nat
inductive DAt where
  | non
  | bl (b : Bool)
  | int (i : Int)
  | txt (ks : List Nat)
  | ref (r : DRef)
inductive DVa where
  | one (a : DAt)
  | lst (as : List DAt)
structure DMsg where
  send : DSd
  target : DRef
  place : Nat
  method : List Nat
  args : List DVa
  path : List DSd
inductive DTg where
  | obj (n : Nat)
  | prom (n : Nat)
  | ans (v q : Nat)
/-- r: resolved, or not -/
inductive DCo where
  | message (m : DMsg) (t : DTg) (w : DWt) (q : Nat) (sh : List DWt)
  | fulfill (r : Bool) (n : Nat) (x : DVa) (sh : List DWt)
  | brk (r : Bool) (n : Nat) (ks : List Nat)
  | subscribe (n : Nat) (w : DWt)
  | release (r : DRef) (w : DWt)
  | relans (n : Nat) (w : DWt)
  | transfer (x : DVa) (sh : List DWt)
structure DPk where
  s : Nat
  r : Nat
  n : Nat
  c : DCo
inductive DEn where
  | start (v : Nat) (ks : List Nat)
  | create (name : List Nat) (vs : List DVa)
  | send (r : DRef) (name : List Nat) (vs : List DVa)
  | transfer (v : Nat) (x : DVa)
  | take
  | turn
  | collect
  | pin (r : DRef)
  | release (r : DRef)
  | receive (p : DPk)
  | drop (rs : List DRef)
/-! as Python's data -/
def pN (n : Nat) : PyData := .int (n : Int)
def pS (ks : List Nat) : PyData := .str (ofIx ks)
def DRef.d (r : DRef) : PyData := .tuple [.str (if r.p then "promise" else "object"), pN r.v, pN r.n]
def DWt.d (w : DWt) : PyData := .tuple [pN w.m, pN w.e]
def DSd.d (s : DSd) : PyData := .tuple [pN s.v, pN s.n]
def DAt.d : DAt → PyData
  | .non => .tuple [.str "none"]
  | .bl b => .tuple [.str "bool", .bool b]
  | .int i => .tuple [.str "int", .int i]
  | .txt ks => .tuple [.str "text", pS ks]
  | .ref r => r.d
def DVa.d : DVa → PyData
  | .one a => a.d
  | .lst as => .tuple [.str "list", .tuple (as.map DAt.d)]
def DMsg.d (m : DMsg) : PyData := .tuple [m.send.d, m.target.d, pN m.place, pS m.method, .tuple (m.args.map DVa.d), .tuple (m.path.map DSd.d)]
def DTg.d : DTg → PyData
  | .obj n => .tuple [.str "object", pN n]
  | .prom n => .tuple [.str "promise", pN n]
  | .ans v q => .tuple [.str "answer", pN v, pN q]
def DCo.d : DCo → PyData
  | .message m t w q sh => .tuple [.str "message", m.d, t.d, w.d, pN q, .tuple (sh.map DWt.d)]
  | .fulfill r n x sh => .tuple [.str (if r then "resolved" else "fulfill"), pN n, x.d, .tuple (sh.map DWt.d)]
  | .brk r n ks => .tuple [.str (if r then "resolved_broken" else "break"), pN n, pS ks]
  | .subscribe n w => .tuple [.str "subscribe", pN n, w.d]
  | .release r w => .tuple [.str "release", r.d, w.d]
  | .relans n w => .tuple [.str "release_answer", pN n, w.d]
  | .transfer x sh => .tuple [.str "transfer", x.d, .tuple (sh.map DWt.d)]
def DPk.d (p : DPk) : PyData := .tuple [pN p.s, pN p.r, pN p.n, p.c.d]
def DEn.d : DEn → PyData
  | .start v ks => .tuple [.str "start", pN v, pS ks]
  | .create nm vs => .tuple [.str "create", pS nm, .tuple (vs.map DVa.d)]
  | .send r nm vs => .tuple [.str "send", r.d, pS nm, .tuple (vs.map DVa.d)]
  | .transfer v x => .tuple [.str "transfer", pN v, x.d]
  | .take => .tuple [.str "take"]
  | .turn => .tuple [.str "turn"]
  | .collect => .tuple [.str "collect"]
  | .pin r => .tuple [.str "pin", r.d]
  | .release r => .tuple [.str "release", r.d]
  | .receive p => .tuple [.str "receive", p.d]
  | .drop rs => .tuple [.str "drop", .tuple (rs.map DRef.d)]
/-! their numbers -/
def rowd {α : Type} (f : α → List Int) (xs : List α) : List Int := cntd xs.length ++ xs.flatMap f
def eS (ks : List Nat) : List Int := cntd ks.length ++ ks.map nat
def zig (i : Int) : Nat := if 0 ≤ i then (2 * i).toNat else (-2 * i - 1).toNat
def DRef.e (r : DRef) : List Int := (if r.p then (1 : Int) else 0) :: (cntd r.v ++ cntd r.n)
def DWt.en (w : DWt) : List Int := cntd w.m ++ cntd w.e
def DSd.e (s : DSd) : List Int := cntd s.v ++ cntd s.n
def DAt.e : DAt → List Int
  | .non => [0]
  | .bl b => [if b then 2 else 1]
  | .int i => 3 :: cntd (zig i)
  | .txt ks => 4 :: eS ks
  | .ref r => 5 :: r.e
def DVa.e : DVa → List Int
  | .one a => 0 :: a.e
  | .lst as => 1 :: rowd DAt.e as
def DMsg.e (m : DMsg) : List Int := m.send.e ++ m.target.e ++ cntd m.place ++ eS m.method ++ rowd DVa.e m.args ++ rowd DSd.e m.path
def DTg.e : DTg → List Int
  | .obj n => 0 :: cntd n
  | .prom n => 1 :: cntd n
  | .ans v q => 2 :: (cntd v ++ cntd q)
def DCo.k : DCo → Int
  | .message _ _ _ _ _ => 0
  | .fulfill r _ _ _ => if r then 4 else 1
  | .brk r _ _ => if r then 5 else 2
  | .subscribe _ _ => 3
  | .release _ _ => 6
  | .relans _ _ => 7
  | .transfer _ _ => 8
/-- the numbers of a content, behind its kind -/
def DCo.e : DCo → List Int
  | .message m t w q sh => m.e ++ t.e ++ w.en ++ cntd q ++ rowd DWt.en sh
  | .fulfill _ n x sh => cntd n ++ x.e ++ rowd DWt.en sh
  | .brk _ n ks => cntd n ++ eS ks
  | .subscribe n w => cntd n ++ w.en
  | .release r w => r.e ++ w.en
  | .relans n w => cntd n ++ w.en
  | .transfer x sh => x.e ++ rowd DWt.en sh
def DPk.e (p : DPk) : List Int := 1 :: (cntd p.s ++ cntd p.r ++ cntd p.n) ++ p.c.k :: p.c.e
def DEn.k : DEn → Int
  | .start _ _ => 0
  | .create _ _ => 1
  | .send _ _ _ => 2
  | .transfer _ _ => 3
  | .take => 4
  | .turn => 5
  | .collect => 6
  | .pin _ => 7
  | .release _ => 8
  | .receive _ => 9
  | .drop _ => 10
def DEn.c : DEn → List Int
  | .start v ks => cntd v ++ eS ks
  | .create nm vs => eS nm ++ rowd DVa.e vs
  | .send r nm vs => r.e ++ eS nm ++ rowd DVa.e vs
  | .transfer v x => cntd v ++ x.e
  | .take => []
  | .turn => []
  | .collect => []
  | .pin r => r.e
  | .release r => r.e
  | .receive p => p.e
  | .drop rs => rowd DRef.e rs
/-- the whole entry, its count ahead -/
def DEn.e (x : DEn) : List Int := cntd (x.k :: x.c).length ++ x.k :: x.c
/-! ### what is in bounds -/
def DRef.ok (r : DRef) : Prop := 1 ≤ r.v ∧ r.v ≤ 9 ∧ 1 ≤ r.n ∧ r.n ≤ 1000000000
def DSd.ok (s : DSd) : Prop := 1 ≤ s.v ∧ s.v ≤ 9 ∧ 1 ≤ s.n ∧ s.n ≤ 1000000000
def DWt.ok (w : DWt) : Prop := 0 < w.m ∧ (cntd w.m).length ≤ 2000 ∧ w.e ≤ 10000 ∧ (w.e = 0 ∨ w.m % 2 = 1) ∧ w.m < 1000000000000
def DAt.ok : DAt → Prop
  | .non => True
  | .bl _ => True
  | .int i => -1000000000 ≤ i ∧ i ≤ 1000000000
  | .txt ks => Tx ks ∧ ks.length ≤ 20
  | .ref r => r.ok
def DVa.ok : DVa → Prop
  | .one a => a.ok
  | .lst as => as.length ≤ 8 ∧ ∀ a ∈ as, a.ok
def DMsg.ok (m : DMsg) : Prop := m.send.ok ∧ m.target.ok ∧ (1 ≤ m.place ∧ m.place ≤ 1000000000) ∧ (Tl m.method ∧ 1 ≤ m.method.length ∧ m.method.length ≤ 12) ∧ (m.args.length ≤ 4 ∧ ∀ x ∈ m.args, x.ok) ∧ (m.path.length ≤ 200 ∧ ∀ x ∈ m.path, x.ok)
def Nm (n : Nat) : Prop := 1 ≤ n ∧ n ≤ 1000000000
def DTg.ok : DTg → Prop
  | .obj n => Nm n
  | .prom n => Nm n
  | .ans v q => (1 ≤ v ∧ v ≤ 9) ∧ Nm q
/-- the distinct references -/
def DAt.refs : DAt → List DRef
  | .ref r => [r]
  | _ => []
def DVa.ats : DVa → List DAt
  | .one a => [a]
  | .lst as => as
def DVa.refs (x : DVa) : List DRef := x.ats.flatMap DAt.refs
def addR (found : List DRef) (r : DRef) : List DRef := if r ∈ found then found else found ++ [r]
def dist (xs : List DVa) : List DRef := (xs.flatMap DVa.refs).foldl addR []
def Sh (xs : List DVa) (sh : List DWt) : Prop := sh.length = (dist xs).length ∧ ∀ w ∈ sh, w.ok
def DCo.ok : DCo → Prop
  | .message m t w q sh => m.ok ∧ t.ok ∧ w.ok ∧ Nm q ∧ Sh m.args sh
  | .fulfill _ n x sh => Nm n ∧ x.ok ∧ Sh [x] sh
  | .brk _ n ks => Nm n ∧ Tx ks ∧ ks.length ≤ 20
  | .subscribe n w => Nm n ∧ w.ok
  | .release r w => r.ok ∧ w.ok
  | .relans n w => Nm n ∧ w.ok
  | .transfer x sh => x.ok ∧ Sh [x] sh
def DPk.ok (p : DPk) : Prop := (1 ≤ p.s ∧ p.s ≤ 9) ∧ (1 ≤ p.r ∧ p.r ≤ 9) ∧ Nm p.n ∧ p.c.ok
def Name (ks : List Nat) : Prop := Tl ks ∧ 1 ≤ ks.length ∧ ks.length ≤ 12
def DEn.ok : DEn → Prop
  | .start v ks => (1 ≤ v ∧ v ≤ 9) ∧ Tn ks ∧ ks.length ≤ 4000
  | .create nm vs => Name nm ∧ vs.length ≤ 6 ∧ ∀ x ∈ vs, x.ok
  | .send r nm vs => r.ok ∧ Name nm ∧ vs.length ≤ 4 ∧ ∀ x ∈ vs, x.ok
  | .transfer v x => (1 ≤ v ∧ v ≤ 9) ∧ x.ok
  | .take => True
  | .turn => True
  | .collect => True
  | .pin r => r.ok
  | .release r => r.ok
  | .receive p => p.ok
  | .drop rs => rs.length ≤ 1000000 ∧ ∀ r ∈ rs, r.ok
/-! ### small facts -/
theorem small1000000 {n : Nat} (h : n ≤ 1000000) : n < sizeLine := Nat.lt_of_le_of_lt h (by decide)
theorem le1000000 {n : Nat} (h : n ≤ 1000000) : n ≤ sizeLine := Nat.le_of_lt (small1000000 h)
theorem le10000000 {n : Nat} (h : n ≤ 10000000) : n ≤ sizeLine := Nat.le_trans h (by decide)
theorem cnt_small {n : Nat} (h : n < 128) : cntd n = [(n : Int)] := by
  rw [cntd, if_pos h]
theorem cnt_big {n : Nat} (h : 128 ≤ n) : cntd n = (128 + (n % 128 : Nat) : Int) :: cntd (n / 128) := by
  rw [cntd, if_neg (by omega)]
theorem cnt_pos (n : Nat) : 1 ≤ (cntd n).length := by
  rw [cntd]
  split
  · exact Nat.le_refl _
  · rw [List.length_cons]
    omega
theorem cnt_len : ∀ (k n : Nat), n < 128 ^ (k + 1) → (cntd n).length ≤ k + 1
  | 0, n, h => by
    rw [cnt_small (by simpa using h)]
    exact Nat.le_refl _
  | k + 1, n, h => by
    by_cases c : n < 128
    · rw [cnt_small c]
      show 1 ≤ k + 1 + 1
      omega
    · rw [cnt_big (by omega), List.length_cons]
      have h2 : n / 128 < 128 ^ (k + 1) := by
        rw [Nat.div_lt_iff_lt_mul (by decide)]
        rw [Nat.pow_succ] at h
        exact h
      have := cnt_len k _ h2
      omega
theorem cnt5 {n : Nat} (h : n ≤ 2000000000) : (cntd n).length ≤ 5 := cnt_len 4 n (Nat.lt_of_le_of_lt h (by decide))
theorem vlen (l : List Int) : (vints l).length = l.length := List.length_map ..
theorem vapp (a b : List Int) : vints (a ++ b) = vints a ++ vints b := List.map_append ..
theorem vcons (a : Int) (b : List Int) : vints (a :: b) = V.int a :: vints b := rfl
theorem vnil : vints [] = [] := rfl
end Vl
set_option Elab.async false
set_option linter.all false
set_option maxRecDepth 100000
set_option maxHeartbeats 4000000
namespace Vl
open PySem PySem.Spec PyProof.Rows L2
/-! ### loops and comprehensions, in readings -/
section
variable {D : Ends} {H : Hp} {Q : VK} {σ : L2.St} {K : PySem.W.Frag} {g : TG} {tb : TS} {a : Addr} {xs : List V} {tt : TT} {te : TE} {vs : List Nat}
/-- what a for asks of the walk J -/
def ForR (J : It) (g : TG) (tb : TS) : TS := fun D σ H => ∃ W : Nat → Nat → L2.St → Hp → Prop, (∃ m, W 0 m σ H) ∧ ∀ i m σ H, W i m σ H →
  (J.stop i H ∧ D.nx σ H) ∨ (J.go i H ∧ ∃ N : L2.St → Hp → Prop, (∀ σ' H', N σ' H' → ∃ m', m' < m ∧ W (i + 1) m' σ' H') ∧ ∀ x H', J.yld i H x H' → g x σ H' fun σ2 H2 => tb { D with nx := N, ct := N, bk := D.nx } σ2 H2)
theorem a_for (wi : TI) (g : TG) (tb : TS) : tFor wi g tb D σ H = wi σ H fun J H1 => ForR J g tb D σ H1 := rfl
theorem a_iTup (tl : TE) (R : It → Hp → Prop) : iTup K tl σ H R = tl σ H fun x H1 => ∃ a, x = .ref a ∧ (∃ xs, SqT K H1 a xs) ∧ R (Itt K a) H1 := rfl
theorem a_iList (tl : TE) (R : It → Hp → Prop) : iList K tl σ H R = tl σ H fun x H1 => ∃ a, x = .ref a ∧ (∃ xs, SqL K H1 a xs) ∧ R (Itl K a) H1 := rfl
theorem a_iStr (tl : TE) (R : It → Hp → Prop) : iStr tl σ H R = tl σ H fun x H1 => ∃ z, x = .str z ∧ R (Its z) H1 := rfl
theorem a_iRng1 (ta : TA) (R : It → Hp → Prop) : iRng1 ta σ H R = ta σ H fun vs H1 => ∃ j : Int, vs = [.int j] ∧ -(2 ^ 62) ≤ j ∧ j < 2 ^ 62 ∧ R (Itr 0 j.toNat) H1 := rfl
theorem a_iRng2 (ta : TA) (R : It → Hp → Prop) : iRng2 ta σ H R = ta σ H fun vs H1 => ∃ i j : Int, vs = [.int i, .int j] ∧ (-(2 ^ 62) ≤ i ∧ i < 2 ^ 62 ∧ -(2 ^ 62) ≤ j ∧ j < 2 ^ 62) ∧ R (Itr i (j - i).toNat) H1 := rfl
theorem rng1 {j : Int} {R : It → Hp → Prop} : (∃ j' : Int, [V.int j] = [.int j'] ∧ -(2 ^ 62) ≤ j' ∧ j' < 2 ^ 62 ∧ R (Itr 0 j'.toNat) H) = (-(2 ^ 62) ≤ j ∧ j < 2 ^ 62 ∧ R (Itr 0 j.toNat) H) := propext ⟨fun ⟨j', e, q⟩ => by
  cases e
  exact q, fun q => ⟨j, rfl, q⟩⟩
theorem rng2 {i j : Int} {R : It → Hp → Prop} : (∃ i' j' : Int, [V.int i, V.int j] = [.int i', .int j'] ∧ (-(2 ^ 62) ≤ i' ∧ i' < 2 ^ 62 ∧ -(2 ^ 62) ≤ j' ∧ j' < 2 ^ 62) ∧ R (Itr i' (j' - i').toNat) H) =
    ((-(2 ^ 62) ≤ i ∧ i < 2 ^ 62 ∧ -(2 ^ 62) ≤ j ∧ j < 2 ^ 62) ∧ R (Itr i (j - i).toNat) H) := propext ⟨fun ⟨i', j', e, q⟩ => by
  cases e
  exact q, fun q => ⟨i, j, rfl, q⟩⟩
theorem forT (Pv : Nat → L2.St → Hp → Prop) (hS : SqT K H a xs) (h0 : Pv 0 σ H) (hl : ∀ i σ H, i ≤ xs.length → Pv i σ H → SqT K H a xs)
    (hs : ∀ i x σ H, xs[i]? = some x → Pv i σ H → g x σ H fun σ2 H2 => tb { D with nx := Pv (i + 1), ct := Pv (i + 1), bk := D.nx } σ2 H2) (hd : ∀ σ H, Pv xs.length σ H → D.nx σ H) :
    (∃ xs, SqT K H a xs) ∧ ForR (Itt K a) g tb D σ H := ⟨⟨xs, hS⟩, for_tup Pv h0 hl hs hd⟩
theorem forL (Pv : Nat → L2.St → Hp → Prop) (hS : SqL K H a xs) (h0 : Pv 0 σ H) (hl : ∀ i σ H, i ≤ xs.length → Pv i σ H → SqL K H a xs)
    (hs : ∀ i x σ H, xs[i]? = some x → Pv i σ H → g x σ H fun σ2 H2 => tb { D with nx := Pv (i + 1), ct := Pv (i + 1), bk := D.nx } σ2 H2) (hd : ∀ σ H, Pv xs.length σ H → D.nx σ H) :
    (∃ xs, SqL K H a xs) ∧ ForR (Itl K a) g tb D σ H := ⟨⟨xs, hS⟩, for_list Pv h0 hl hs hd⟩
theorem forN {lo : Int} {n : Nat} (Pv : Nat → L2.St → Hp → Prop) (h0 : Pv 0 σ H)
    (hs : ∀ i σ H, i < n → Pv i σ H → g (.int (lo + i)) σ H fun σ2 H2 => tb { D with nx := Pv (i + 1), ct := Pv (i + 1), bk := D.nx } σ2 H2) (hd : ∀ σ H, Pv n σ H → D.nx σ H) :
    ForR (Itr lo n) g tb D σ H := for_range Pv h0 hs hd
/-- sign by sign -/
theorem forS {z : Str} (Pv : Nat → L2.St → Hp → Prop) (h0 : Pv 0 σ H)
    (hs : ∀ i c σ H, z.cps.toList[i]? = some c → Pv i σ H → g (.str ⟨#[c]⟩) σ H fun σ2 H2 => tb { D with nx := Pv (i + 1), ct := Pv (i + 1), bk := D.nx } σ2 H2) (hd : ∀ σ H, Pv z.cps.toList.length σ H → D.nx σ H) :
    ForR (Its z) g tb D σ H := by
  refine ⟨fun i m σ H => m = z.cps.size - i ∧ i ≤ z.cps.size ∧ Pv i σ H, ⟨z.cps.size, by simp, Nat.zero_le _, h0⟩, ?_⟩
  rintro i m σ H ⟨rfl, hi, p⟩
  by_cases hlt : i < z.cps.size
  · refine .inr ⟨hlt, Pv (i + 1), fun σ' H' p' => ⟨z.cps.size - (i + 1), by omega, rfl, hlt, p'⟩, fun x H' y => ?_⟩
    obtain ⟨rfl, c, hc, rfl⟩ := y
    exact hs i c σ _ (by rw [Array.getElem?_toList]; exact hc) p
  · have e : i = z.cps.toList.length := by
      rw [Array.length_toList]
      omega
    subst e
    exact .inl ⟨by rw [Array.length_toList]; exact Nat.le_refl _, hd σ H p⟩
/-- what a comprehension asks of the walk J -/
def LcR (J : It) (g : TG) (tt : TT) (te : TE) (vs : List Nat) : TE := fun σ H1 Q => ∀ D, H1 D = none → ∃ W : Nat → Nat → Hp → Prop, (∃ m, W 0 m (upd H1 D (.lst []))) ∧ ∀ i m H, W i m H →
  (J.stop i H ∧ Q (.ref D) H) ∨ (J.go i H ∧ ∃ Nx : Hp → Prop, (∀ H', Nx H' → ∃ m', m' < m ∧ W (i + 1) m' H') ∧ ∀ x H', J.yld i H x H' → g x (wipe σ vs) H' fun σ2 H2 => wipe σ2 vs = wipe σ vs ∧ tt σ2 H2 fun b H3 =>
    if b = true then te σ2 H3 fun y H4 => ∃ acc, H4 D = some (.lst acc) ∧ acc.length < sizeLine ∧ Nx (upd H4 D (.lst (acc ++ [y]))) else Nx H3)
theorem a_lc (wi : TI) : tLc wi g tt te vs σ H Q = wi σ H fun J H1 => LcR J g tt te vs σ H1 Q := rfl
theorem a_yes {QB : Bool → Hp → Prop} : tYes σ H QB = QB true H := rfl
/-- over a tuple; all items are kept -/
theorem lcT (Pv : Addr → Nat → Hp → Prop) (hS : SqT K H a xs) (h0 : ∀ D, H D = none → Pv D 0 (upd H D (.lst []))) (hl : ∀ D i H, i ≤ xs.length → Pv D i H → SqT K H a xs)
    (hs : ∀ D i x H, xs[i]? = some x → Pv D i H → g x (wipe σ vs) H fun σ2 H2 => wipe σ2 vs = wipe σ vs ∧ tt σ2 H2 fun b H3 =>
      if b = true then te σ2 H3 fun y H4 => ∃ acc, H4 D = some (.lst acc) ∧ acc.length < sizeLine ∧ Pv D (i + 1) (upd H4 D (.lst (acc ++ [y]))) else Pv D (i + 1) H3)
    (hd : ∀ D H, Pv D xs.length H → Q (.ref D) H) : (∃ xs, SqT K H a xs) ∧ LcR (Itt K a) g tt te vs σ H Q :=
  ⟨⟨xs, hS⟩, fun D n => lc_tup (Pv D) (h0 D n) (hl D) (hs D) (hd D)⟩
theorem lcL (Pv : Addr → Nat → Hp → Prop) (hS : SqL K H a xs) (h0 : ∀ D, H D = none → Pv D 0 (upd H D (.lst []))) (hl : ∀ D i H, i ≤ xs.length → Pv D i H → SqL K H a xs)
    (hs : ∀ D i x H, xs[i]? = some x → Pv D i H → g x (wipe σ vs) H fun σ2 H2 => wipe σ2 vs = wipe σ vs ∧ tt σ2 H2 fun b H3 =>
      if b = true then te σ2 H3 fun y H4 => ∃ acc, H4 D = some (.lst acc) ∧ acc.length < sizeLine ∧ Pv D (i + 1) (upd H4 D (.lst (acc ++ [y]))) else Pv D (i + 1) H3)
    (hd : ∀ D H, Pv D xs.length H → Q (.ref D) H) : (∃ xs, SqL K H a xs) ∧ LcR (Itl K a) g tt te vs σ H Q :=
  ⟨⟨xs, hS⟩, fun D n => lc_list (Pv D) (h0 D n) (hl D) (hs D) (hd D)⟩
theorem lcN {lo : Int} {n : Nat} (Pv : Addr → Nat → Hp → Prop) (h0 : ∀ D, H D = none → Pv D 0 (upd H D (.lst [])))
    (hs : ∀ D i H, i < n → Pv D i H → g (.int (lo + i)) (wipe σ vs) H fun σ2 H2 => wipe σ2 vs = wipe σ vs ∧ tt σ2 H2 fun b H3 =>
      if b = true then te σ2 H3 fun y H4 => ∃ acc, H4 D = some (.lst acc) ∧ acc.length < sizeLine ∧ Pv D (i + 1) (upd H4 D (.lst (acc ++ [y]))) else Pv D (i + 1) H3)
    (hd : ∀ D H, Pv D n H → Q (.ref D) H) : LcR (Itr lo n) g tt te vs σ H Q := fun D nD => lc_range (Pv D) (h0 D nD) (hs D) (hd D)
theorem lcS {z : Str} (Pv : Addr → Nat → Hp → Prop) (h0 : ∀ D, H D = none → Pv D 0 (upd H D (.lst [])))
    (hs : ∀ D i c H, z.cps.toList[i]? = some c → Pv D i H → g (.str ⟨#[c]⟩) (wipe σ vs) H fun σ2 H2 => wipe σ2 vs = wipe σ vs ∧ tt σ2 H2 fun b H3 =>
      if b = true then te σ2 H3 fun y H4 => ∃ acc, H4 D = some (.lst acc) ∧ acc.length < sizeLine ∧ Pv D (i + 1) (upd H4 D (.lst (acc ++ [y]))) else Pv D (i + 1) H3)
    (hd : ∀ D H, Pv D z.cps.toList.length H → Q (.ref D) H) : LcR (Its z) g tt te vs σ H Q := fun D nD => by
  refine ⟨fun i m H => m = z.cps.size - i ∧ i ≤ z.cps.size ∧ Pv D i H, ⟨z.cps.size, by simp, Nat.zero_le _, h0 D nD⟩, ?_⟩
  rintro i m H ⟨rfl, hi, p⟩
  by_cases hlt : i < z.cps.size
  · refine .inr ⟨hlt, Pv D (i + 1), fun H' p' => ⟨z.cps.size - (i + 1), by omega, rfl, hlt, p'⟩, fun x H' y => ?_⟩
    obtain ⟨rfl, c, hc, rfl⟩ := y
    exact hs D i c _ (by rw [Array.getElem?_toList]; exact hc) p
  · have e : i = z.cps.toList.length := by
      rw [Array.length_toList]
      omega
    subst e
    exact .inl ⟨by rw [Array.length_toList]; exact Nat.le_refl _, hd D H p⟩
/-! targets that are tuples, stores -/
theorem a_gTup (n : Nat) (t : TGs) (v : V) (QS : L2.St → Hp → Prop) : gTup K n t v σ H QS = ∃ a xs, v = .ref a ∧ SqT K H a xs ∧ xs.length = n ∧ t xs σ H QS := rfl
theorem a_gCons (t : TG) (u : TGs) (v : V) (r : List V) (QS : L2.St → Hp → Prop) : gCons t u (v :: r) σ H QS = t v σ H fun σ' H' => u r σ' H' QS := propext ⟨fun ⟨v', r', e, q⟩ => by
  cases e
  exact q, fun q => ⟨v, r, rfl, q⟩⟩
theorem a_gNil (QS : L2.St → Hp → Prop) : gNil [] σ H QS = QS σ H := propext ⟨fun ⟨_, q⟩ => q, fun q => ⟨rfl, q⟩⟩
theorem a_gSub (to ti : TE) (t : TSet) (v : V) (QS : L2.St → Hp → Prop) : gSub to ti t v σ H QS = to σ H fun o H1 => ti σ H1 fun i H2 => t o i v H2 fun H3 => QS σ H3 := rfl
end
/-! ### more operators -/
section
variable {X : Cx} {K : PySem.W.Frag} {H : Hp} {Q : VK}
theorem hu65 {k : Nat} {A : Around} (hr : Room k A) : A.units + 65 < cLine := by
  have := hr.un
  omega
/-- text * int -/
def rMulS : R2 := fun x y H Q => ∃ (z : Str) (k : Nat), x = .str z ∧ y = .int (k : Int) ∧ (0 < k ∧ k ≤ 1000000) ∧ z.length * k ≤ 1000000 ∧ Q (.str ⟨(List.replicate k z.cps.toList).flatten.toArray⟩) H
end
end Vl
set_option Elab.async false
set_option linter.all false
set_option maxRecDepth 100000
set_option maxHeartbeats 4000000
namespace Vl
open PySem PySem.Spec PyProof.Rows L2
/-! ### a writer's promise: a new list of the numbers -/
def spW {α : Type} (K : PySem.W.Frag) (D : α → PyData) (ok : α → Prop) (e : α → List Int) : Sp := Sp1 fun a H Q _ => ∃ x : α, Dp K H a (D x) ∧ ok x ∧ (e x).length ≤ 1000000 ∧
  ∀ p H', Same H H' → H p = none → H' p = some (.lst (vints (e x))) → Q (.ref p) H'
section
variable {α : Type} {K : PySem.W.Frag} {D : α → PyData} {ok : α → Prop} {e : α → List Int} {H : Hp} {Q : VK} {E : XK} {v : V}
theorem wcall (x : α) (hd : Dp K H v (D x)) (ho : ok x) (hl : (e x).length ≤ 1000000) (q : ∀ p H', Same H H' → H p = none → H' p = some (.lst (vints (e x))) → Q (.ref p) H') : spW K D ok e [v] H Q E :=
  ⟨v, rfl, x, hd, ho, hl, q⟩
/-- a + b of lists of numbers -/
theorem catw {l l2 : Addr} {a b : List Int} (h : H l = some (.lst (vints a))) (h2 : H l2 = some (.lst (vints b))) (hz : (a ++ b).length ≤ 10000000)
    (q : ∀ p, H p = none → Q (.ref p) (upd H p (.lst (vints (a ++ b))))) : rCat (.ref l) (.ref l2) H Q :=
  m_cat h h2 (by
    rw [vlen, vlen]
    rw [List.length_append] at hz
    exact le10000000 hz) fun p np => by
    rw [← vapp]
    exact q p np
theorem appw {l : Addr} {a : List Int} {i : Int} (h : H l = some (.lst (vints a))) (hz : a.length ≤ 1000000) (q : Q .non (upd H l (.lst (vints (a ++ [i]))))) : rAppend (.ref l) [.int i] H Q :=
  m_app h (by
    rw [vlen]
    exact small1000000 hz) (by
    rw [vapp] at q
    exact q)
theorem extw {l l2 : Addr} {a b : List Int} (h : H l = some (.lst (vints a))) (h2 : H l2 = some (.lst (vints b))) (hz : (a ++ b).length ≤ 10000000) (q : Q .non (upd H l (.lst (vints (a ++ b))))) : rExtend (.ref l) [.ref l2] H Q :=
  m_ext h h2 (by
    rw [vlen, vlen]
    rw [List.length_append] at hz
    exact le10000000 hz) (by
    rw [vapp] at q
    exact q)
end
/-! ### texts by their signs' indices -/
theorem ofIx_len (ks : List Nat) : (ofIx ks).length = ks.length := by
  show (ks.map sgAt).toArray.size = ks.length
  rw [List.size_toArray, List.length_map]
theorem ofIx_list (ks : List Nat) : (ofIx ks).cps.toList = ks.map sgAt := rfl
theorem sg_idx : ∀ k < 94, Builtin.Str.occurrences (ofIx (List.range 94)) ⟨#[sgAt k]⟩ 0 (ofIx (List.range 94)).length 1 = [k] := by decide +kernel
theorem chars_eq : ("" ++ " !\"#$&'()*+,-./0123456789:;<=>?@ABCDEFGHIJKLMNOPQRSTUVWXYZ[\\]^_`abcdefghijklmnopqrstuvwxyz{|}~" : String) = " !\"#$&'()*+,-./0123456789:;<=>?@ABCDEFGHIJKLMNOPQRSTUVWXYZ[\\]^_`abcdefghijklmnopqrstuvwxyz{|}~" := by decide +kernel
abbrev charsS : Str := " !\"#$&'()*+,-./0123456789:;<=>?@ABCDEFGHIJKLMNOPQRSTUVWXYZ[\\]^_`abcdefghijklmnopqrstuvwxyz{|}~"
theorem chars_ix : charsS = ofIx (List.range 94) := by decide +kernel
theorem letters_ix : ("abcdefghijklmnopqrstuvwxyz" : Str) = ofIx (List.range' 64 26) := by decide +kernel
theorem nl_ix : ("\n" : Str) = ofIx [94] := by decide +kernel
theorem sgAt_inj : ∀ j < 95, ∀ k < 95, sgAt j = sgAt k → j = k := by decide +kernel
/-- CHARACTERS.index(sign) -/
theorem idxw {k : Nat} {P : Nat → Prop} (hk : k < 94) (q : P k) : ∃ a b i rest, V.str charsS = .str a ∧ [V.str ⟨#[sgAt k]⟩] = [.str b] ∧ Builtin.Str.occurrences a b 0 a.length 1 = i :: rest ∧ P i :=
  ⟨charsS, ⟨#[sgAt k]⟩, k, [], rfl, rfl, by
    rw [chars_ix]
    exact sg_idx k hk, q⟩
/-! ### rows of distinct constants: tuple.index -/
theorem tidx {K : PySem.W.Frag} {H : Hp} {P : Nat → Prop} {p : Addr} {z : Str} (ys : List Str) (j : Nat) (h : SqT K H p (ys.map V.str)) (hj : ys[j]? = some z) (hn : ∀ m, m < j → ys[m]? ≠ some z) (q : P j) :
    ∃ p', ∃ ys : List Str, ∃ z' j, V.ref p = .ref p' ∧ [V.str z] = [.str z'] ∧ SqT K H p' (ys.map V.str) ∧ ys[j]? = some z' ∧ (∀ m, m < j → ys[m]? ≠ some z') ∧ P j :=
  ⟨p, ys, z, j, rfl, rfl, h, hj, hn, q⟩
/-- constants read as texts -/
theorem strs_of {K : PySem.W.Frag} {H : Hp} : ∀ {ys : List Str} {xs : List V}, DpAll K H xs (ys.map PyData.str) → xs = ys.map V.str
  | [], _, h => by
    cases h
    rfl
  | y :: ys, _, h => by
    cases h with
    | cons h1 h2 =>
      cases h1
      rw [strs_of h2]
      rfl
theorem sqT_strs {K : PySem.W.Frag} {H : Hp} {a : Addr} {ys : List Str} (h : Dp K H (.ref a) (.tuple (ys.map PyData.str))) : SqT K H a (ys.map V.str) := by
  cases h with
  | tup h1 h2 =>
    rw [strs_of h2] at h1
    exact h1
end Vl
set_option Elab.async false
set_option linter.all false
set_option maxRecDepth 100000
set_option maxHeartbeats 4000000
namespace Vl
open PySem PySem.Spec PyProof.Rows L2
section
variable {X : Cx}
/-! x in t, t a tuple of data; t.index(x) -/
def rInDT (K : PySem.W.Frag) : R2 := fun x y H Q => ∃ d ds, Dp K H x d ∧ Dp K H y (.tuple ds) ∧ SeqAt.shaped d = true ∧ SeqAt.shaped (.tuple ds) = true ∧ Q (.bl (ds.any fun z => PyData.eqv z d)) H
theorem lay_of {ds : List PyData} (h : SeqAt.shaped (.tuple ds) = true) : PyData.canLayAll0 ds = true := by
  have q := SeqAt.canLay_of_shaped h
  unfold PyData.canLay0 at q
  exact q
theorem op_inDT (hu : X.A.units + 65 < cLine) : OpR X (compareOp .In) (rInDT X.K) := by
  intro pins s σ H x y v u Q I rx ry h
  obtain ⟨d, ds, hd, he, sd, se, q⟩ := h
  obtain ⟨as, r1⟩ := Dp.reads I d x v hd rx
  obtain ⟨bs, r2⟩ := Dp.reads I (.tuple ds) y u he ry
  exact SeqAt.in_tuple_reads r2 r1 (lay_of se) (SeqAt.canLay_of_shaped sd) (room_in_shaped sd hu) ⟨.bl _, H, I, rfl, q⟩
def rTIxD (K : PySem.W.Frag) : V → List V → Hp → VK → Prop := fun x xs H Q => ∃ (a : Addr) (y : V) (d : PyData) (ds : List PyData) (j : Nat) (z : PyData), x = V.ref a ∧ xs = [y] ∧ Dp K H (V.ref a) (.tuple ds) ∧ Dp K H y d ∧
  SeqAt.shaped (.tuple ds) = true ∧ SeqAt.shaped d = true ∧ ds[j]? = some z ∧ PyData.eqv z d = true ∧ (∀ (m : Nat) (z' : PyData), m < j → ds[m]? = some z' → PyData.eqv z' d = false) ∧ Q (.int (j : Nat)) H
theorem mt_tup_indexD (hu : X.A.units + 65 < cLine) : MtR X "tuple.index" (rTIxD X.K) := by
  intro pins s σ H x xs v us Q I rx rxs h
  obtain ⟨a, y, d, ds, j, z, rfl, rfl, hl, hy, sl, sd, hz, hzj, hno, q⟩ := h
  cases rx
  obtain ⟨uy, rfl, ry⟩ := vals1 rxs
  obtain ⟨bs, r1⟩ := Dp.reads I d y uy hy ry
  have hxs := lay_of sl
  cases hl with
  | tup hs ha =>
    obtain ⟨its, rv, ⟨⟨cls, dd, data, sls⟩, ho, hc, n, hdt⟩, hlen⟩ := I.tuple hs
    simp only at hc hdt
    subst hc hdt
    obtain ⟨as, h4⟩ := Dp.readsAll I ds _ its ha rv
    have hn : its.length = ds.length := SeqAt.ReadsAll.length ds its as h4
    have hmap : its.map (SeqAt.readOf s.heap) = ds := SeqAt.readsAll_map ds its as hxs h4
    have hj : j < its.toArray.size := by
      have := (List.getElem?_eq_some_iff.mp hz).1
      rw [List.size_toArray]
      omega
    have ix : ∀ (m : Nat) (hm : m < its.toArray.size) (z' : PyData), ds[m]? = some z' → SeqAt.readOf s.heap its.toArray[m] = z' := fun m hm z' e => by
      have hml : m < its.length := by simpa using hm
      rw [← hmap, List.getElem?_map, List.getElem?_eq_getElem hml] at e
      simpa using Option.some.inj e
    refine call_meets PySem.F.slot_tuple_index ⟨_, ho, rfl⟩ PySem.F.entry_tuple_index (PySem.F.args_tuple_index_2 _ _)
      (TI.tuple_indexAt a its.toArray n dd sls uy (fun u => PyData.eqv (SeqAt.readOf s.heap u) d) j hj ?_ ?_) ⟨ho, SeqAt.items_eqAt (vs := its.toArray) h4 r1 hxs (SeqAt.canLay_of_shaped sd) (room_in_shaped sd hu), ?_⟩
    · show PyData.eqv (SeqAt.readOf s.heap its.toArray[j]) d = true
      rw [ix j hj z hz]
      exact hzj
    · intro m hm hmj
      have hmd : m < ds.length := by
        rw [List.size_toArray] at hm
        omega
      show PyData.eqv (SeqAt.readOf s.heap its.toArray[m]) d = false
      rw [ix m hm _ (List.getElem?_eq_getElem hmd)]
      exact hno m _ hmj (List.getElem?_eq_getElem hmd)
    · exact ⟨.int (j : Nat), H, I.tok _, ⟨_, rfl⟩, q⟩
/-! text * int -/
theorem foldl_flat : ∀ (l : List (Array Nat)) (acc : Array Nat), (l.foldl (· ++ ·) acc).toList = acc.toList ++ (l.map Array.toList).flatten
  | [], acc => by simp
  | x :: l, acc => by
    rw [List.foldl_cons, foldl_flat l]
    simp
theorem rep_one {z : Str} {k : Nat} (h : ((k : Int) == 1 || z.length == 0) = true) : (⟨(List.replicate k z.cps.toList).flatten.toArray⟩ : Str) = z := by
  obtain ⟨z⟩ := z
  rcases Bool.or_eq_true_iff.mp h with h | h
  · have e : k = 1 := by
      have := beq_iff_eq.mp h
      omega
    subst e
    simp
  · have e : z.size = 0 := beq_iff_eq.mp h
    have e2 : z = #[] := Array.size_eq_zero_iff.mp e
    subst e2
    have : ∀ k : Nat, (List.replicate k ([] : List Nat)).flatten = [] := by
      intro k
      induction k with
      | zero => rfl
      | succ k ih => rw [List.replicate_succ, List.flatten_cons, ih, List.append_nil]
    show (⟨(List.replicate k ([] : List Nat)).flatten.toArray⟩ : Str) = _
    rw [this k]
theorem op_mulS : OpR X (binaryOp .Mult) rMulS := by
  intro pins s σ H x y v u Q I rx ry h
  obtain ⟨z, k, rfl, rfl, ⟨hk, hk2⟩, hz, q⟩ := h
  obtain ⟨t, rfl⟩ := rx
  obtain ⟨t', rfl⟩ := ry
  by_cases c1 : (((k : Int) == 1 || z.length == 0) = true)
  · rw [rep_one c1] at q
    refine P.mul_str ?_ (fun _ e => by rw [c1] at e; cases e) (fun _ e => by rw [c1] at e; cases e) ?_
    · have e1 : ¬ ((k : Int) < -(2 ^ 63 : Int)) := by omega
      have e2 : ¬ ((k : Int) ≥ 2 ^ 63) := by omega
      rw [decide_eq_false e1, decide_eq_false e2]
      rfl
    · rw [if_neg (by omega), if_pos c1]
      exact ⟨.str z, H, I, ⟨t, rfl⟩, q⟩
  · refine P.mul_str ?_ (fun _ _ => ?_) (fun _ _ => ?_) ?_
    · have e1 : ¬ ((k : Int) < -(2 ^ 63 : Int)) := by omega
      have e2 : ¬ ((k : Int) ≥ 2 ^ 63) := by omega
      rw [decide_eq_false e1, decide_eq_false e2]
      rfl
    · have e3 : (z.length : Int) * k ≤ 1000000 := by
        have : ((z.length * k : Nat) : Int) ≤ 1000000 := by omega
        rw [Int.natCast_mul] at this
        exact this
      have : (z.length : Int) ≤ (2 ^ 63 - 1) / (k : Int) := by
        rw [Int.le_ediv_iff_mul_le (by omega)]
        omega
      omega
    · have : z.length * (k : Int).toNat ≤ 1000000 := hz
      show decide _ = false
      refine decide_eq_false ?_
      have := sizeLine_eq
      omega
    · rw [if_neg (by omega), if_neg c1]
      have ek : ((k : Int).toNat) = k := rfl
      have es : (⟨(List.replicate k z.cps).foldl (· ++ ·) #[]⟩ : Str) = ⟨(List.replicate k z.cps.toList).flatten.toArray⟩ := by
        apply congrArg
        apply Array.ext'
        rw [foldl_flat, List.map_replicate]
        simp
      refine ⟨?_, ⟨.str _, H, I.tok _, ⟨_, rfl⟩, ?_⟩⟩
      · rw [ek, es]
        show ((List.replicate k z.cps.toList).flatten.toArray).size ≤ sizeLine
        rw [List.size_toArray, List.length_flatten, List.map_replicate, List.sum_replicate_nat, Array.length_toList]
        have : z.cps.size * k ≤ 1000000 := hz
        rw [Nat.mul_comm] at this
        exact le1000000 this
      · rw [ek, es]
        exact q
/-! repr of data -/
def rRepr (K : PySem.W.Frag) : List V → Hp → VK → Prop := fun xs H Q => ∃ a d, xs = [.ref a] ∧ Dp K H (.ref a) d ∧ d.showable = true ∧ d.hasDict = false ∧ d.depth ≤ 64 ∧ d.shown.length ≤ sizeLine ∧ Q (.str d.shown) H
theorem call_reprD (hg : X.A.guards = some []) (hu : X.A.units + 64 < cLine) (hu2 : X.A.units + 65 < cLine) : CallR X (.builtin "repr") (rRepr X.K) := by
  intro pins s σ H xs us Q I r h
  obtain ⟨a, d, rfl, hd, hs, hn, hdp, hsz, q⟩ := h
  obtain ⟨u, rfl, ru⟩ := vals1 r
  cases ru
  obtain ⟨as, rd⟩ := Dp.reads I d _ _ hd rfl
  exact repr_of_reads' rd hs (fun e => by rw [hn] at e; cases e) hg (by omega) (fun _ _ e => e) (fun h' u tk hk => ⟨.str d.shown, H, I.kept hk, ⟨u, rfl⟩, q⟩) hsz
end
end Vl
namespace Vl
open PySem PySem.Spec PyProof.Rows L2
theorem beqS (a b : String) : (Str.ofString a == Str.ofString b) = (a == b) := by
  by_cases h : a = b
  · subst h
    simp
  · have h2 : ¬ Str.ofString a = Str.ofString b := by rw [ofS]; exact h
    rw [beq_eq_false_iff_ne.mpr h, beq_eq_false_iff_ne.mpr h2]
theorem shaped_of {d : PyData} (h : d.canLay0 = true) (h2 : d.depth ≤ 64) : SeqAt.shaped d = true := by
  unfold SeqAt.shaped
  rw [h, decide_eq_true h2]
  rfl
/-- references are told apart -/
theorem ref_eqv (r s : DRef) : PyData.eqv r.d s.d = decide (r = s) := by
  obtain ⟨p, v, n⟩ := r
  obtain ⟨p', v', n'⟩ := s
  have e1 : ((if p = true then Str.ofString "promise" else Str.ofString "object") == (if p' = true then Str.ofString "promise" else Str.ofString "object")) = decide (p = p') := by
    cases p <;> cases p' <;> simp [beqS]
  show PyData.eqv (.tuple [.str (if p = true then Str.ofString "promise" else Str.ofString "object"), .int v, .int n]) (.tuple [.str (if p' = true then Str.ofString "promise" else Str.ofString "object"), .int v', .int n']) = _
  simp only [PyData.eqv, PyData.eqvAll, Bool.and_true, DRef.mk.injEq, e1]
  rw [Bool.eq_iff_iff]
  simp only [Bool.and_eq_true, decide_eq_true_eq, beq_iff_eq, Int.natCast_inj]
theorem ref_shaped (r : DRef) : SeqAt.shaped r.d = true := by
  obtain ⟨p, v, n⟩ := r
  cases p <;> exact shaped_of (by simp [DRef.d, pN, PyData.canLay0, PyData.canLayAll0] <;> decide +kernel) (by simp [DRef.d, pN, PyData.depth, PyData.depthAll])
end Vl
namespace Vl
open PySem PySem.Spec PyProof.Rows L2
theorem sgAt_lt (k : Nat) : sgAt k < 127 := by
  unfold sgAt
  rw [List.getD_eq_getElem?_getD]
  cases e : sg[k]? with
  | none => exact (by decide : (0 : Nat) < 127)
  | some c =>
    have h : ∀ c ∈ sg, c < 127 := by decide +kernel
    exact h c (List.mem_of_getElem? e)
theorem ix_ok (ks : List Nat) : PyData.strOk (ofIx ks) = true := by
  show ((ks.map sgAt).toArray.all fun c => decide (c < 0x110000)) = true
  rw [List.all_toArray, List.all_map]
  exact List.all_eq_true.mpr fun k _ => decide_eq_true (Nat.lt_trans (sgAt_lt k) (by decide))
theorem lit_ok (s : String) : PyData.strOk (Str.ofString s) = true := by
  rw [Str.ofString_eq_toList]
  show ((s.toList.map Char.toNat).toArray.all fun c => decide (c < 0x110000)) = true
  rw [List.all_toArray, List.all_map]
  refine List.all_eq_true.mpr fun c _ => decide_eq_true ?_
  have h := c.valid
  simp only [UInt32.isValidChar, Nat.isValidChar] at h
  show c.val.toNat < _
  omega
theorem at_lay (a : DAt) : a.d.canLay0 = true ∧ a.d.depth ≤ 1 := by
  cases a with
  | non => exact ⟨by decide +kernel, by decide +kernel⟩
  | bl b => cases b <;> exact ⟨by decide +kernel, by decide +kernel⟩
  | int i => exact ⟨by simp [DAt.d, PyData.canLay0, PyData.canLayAll0, lit_ok], by simp [DAt.d, PyData.depth, PyData.depthAll]⟩
  | txt ks => exact ⟨by simp [DAt.d, pS, PyData.canLay0, PyData.canLayAll0, lit_ok, ix_ok], by simp [DAt.d, pS, PyData.depth, PyData.depthAll]⟩
  | ref r =>
    obtain ⟨p, v, n⟩ := r
    cases p <;> exact ⟨by simp [DAt.d, DRef.d, pN, PyData.canLay0, PyData.canLayAll0, lit_ok], by simp [DAt.d, DRef.d, pN, PyData.depth, PyData.depthAll]⟩
theorem at_shaped (a : DAt) : SeqAt.shaped a.d = true := shaped_of (at_lay a).1 (Nat.le_trans (at_lay a).2 (by decide))
end Vl
namespace Vl
open PySem PySem.Spec PyProof.Rows L2
/-- for x in t: numbers.extend(f(x)) -/
theorem forExt {α : Type} {K : PySem.W.Frag} {H H0 : Hp} {a p : Addr} {xs : List V} {g : TG} {tb : TS} {Dn : Ends} {σ : L2.St} {D : α → PyData} {ok : α → Prop} {e : α → List Int} (ds : List α) (S : Option V → L2.St) (y0 : Option V) (bs : List Int)
    (hS : SqT K H a xs) (hD : DpAll K H xs (ds.map D)) (hok : ∀ d ∈ ds, ok d) (hσ : σ = S y0) (hp : H p = some (.lst (vints bs))) (s0 : Same H0 H) (np : H0 p = none) (hl : (bs ++ ds.flatMap e).length ≤ 1000000) (hn : noLs (ds.map D) = true)
    (step : ∀ (N : L2.St → Hp → Prop) x y H1, tyV K "list" (.ref p) H1 → spW K D ok e [x] H1 (fun v H2 => rExtend (.ref p) [v] H2 fun _ H3 => N (S (some x)) H3) E0 →
      g x (S y) H1 fun σ2 H2 => tb { Dn with nx := N, ct := N, bk := Dn.nx } σ2 H2)
    (k : ∀ y H1, Same H0 H1 → TupKeep H H1 → H1 p = some (.lst (vints (bs ++ ds.flatMap e))) → Dn.nx (S y) H1) : (∃ xs, SqT K H a xs) ∧ ForR (Itt K a) g tb Dn σ H := by
  have hx : xs.length = ds.length := by rw [DpAll.length hD, List.length_map]
  have fm : ∀ i, (bs ++ (ds.take i).flatMap e).length ≤ (bs ++ ds.flatMap e).length := fun i => by
    have : ds.flatMap e = (ds.take i).flatMap e ++ (ds.drop i).flatMap e := by rw [← List.flatMap_append, List.take_append_drop]
    rw [this]
    simp only [List.length_append]
    omega
  refine forT (fun i σ H1 => ∃ y, σ = S y ∧ H1 p = some (.lst (vints (bs ++ (ds.take i).flatMap e))) ∧ Same H0 H1 ∧ TupKeep H H1) hS ⟨y0, hσ, ?_, s0, .refl⟩ (fun i σ H1 _ h => ?_) ?_ ?_
  · rw [hp]
    simp
  · obtain ⟨y, _, _, _, tk⟩ := h
    exact tk.sqT hS
  · rintro i x σ H1 hx ⟨y, rfl, e1, s1, tk⟩
    obtain ⟨d, hd, hq⟩ := DpAll.get hD hx
    rw [List.getElem?_map] at hd
    cases he : ds[i]? with
    | none =>
      rw [he] at hd
      cases hd
    | some z =>
      rw [he] at hd
      cases hd
      have hm := List.mem_of_getElem? he
      have hnz : noL (D z) = true := by
        have : ∀ {l : List α}, noLs (l.map D) = true → z ∈ l → noL (D z) = true := by
          intro l
          induction l with
          | nil => intro _ h; cases h
          | cons b l ih =>
            intro h h2
            unfold noLs at h
            obtain ⟨q1, q2⟩ := Bool.and_eq_true_iff.mp h
            rcases List.mem_cons.mp h2 with r | r
            · rw [r]
              exact q1
            · exact ih q2 r
        exact this hn hm
      have f2 := fm (i + 1)
      rw [List.take_add_one, he] at f2
      simp only [Option.toList, List.flatMap_append, List.flatMap_cons, List.flatMap_nil, List.append_nil] at f2
      have hz : (e z).length ≤ 1000000 := by
        simp only [List.length_append] at f2 hl
        omega
      refine step _ x y H1 (ty_lst (.of e1)) (wcall z (tk.dp hnz hq) (hok z hm) hz fun p2 H2 s2 np2 e2 => ?_)
      refine extw (s2 _ _ e1) e2 ?_ ⟨_, rfl, ?_, Same.put (s1.trans s2) np, ?_⟩
      · rw [List.append_assoc]
        omega
      · rw [upd_same, List.take_add_one, he]
        simp only [Option.toList, List.flatMap_append, List.flatMap_cons, List.flatMap_nil, List.append_nil, List.append_assoc]
      · have t2 := tk.trans (TupKeep.of s2)
        have hne : ∀ b o, H2 b = some o → (∀ l, o ≠ .lst l) → b ≠ p := fun b o q n z => by
          rw [z, s2 _ _ e1] at q
          exact n _ (Option.some.inj q).symm
        refine ⟨fun b l q => ?_, fun b o u q => ?_⟩
        · have q2 := t2.1 b l q
          rw [upd_ne (hne b _ q2 (by intro l z; cases z))]
          exact q2
        · have q2 := t2.2 b o u q
          rw [upd_ne (hne b _ q2 (by intro l z; cases z))]
          exact q2
  · rintro σ H1 ⟨y, rfl, e1, s1, tk⟩
    rw [hx, List.take_length] at e1
    exact k y H1 s1 tk e1
theorem noLs_of {α : Type} {D : α → PyData} (h : ∀ x, noL (D x) = true) : ∀ l : List α, noLs (l.map D) = true
  | [] => rfl
  | x :: l => by
    show (noL (D x) && noLs (l.map D)) = true
    rw [h x, noLs_of h l]
    rfl
theorem nl_ref (r : DRef) : noL r.d = true := rfl
theorem nl_wt (r : DWt) : noL r.d = true := rfl
theorem nl_sd (r : DSd) : noL r.d = true := rfl
theorem nl_n (n : Nat) : noL (pN n) = true := rfl
theorem nl_at (a : DAt) : noL a.d = true := by cases a <;> rfl
theorem nl_va (x : DVa) : noL x.d = true := by
  cases x with
  | one a => exact nl_at a
  | lst as =>
    show (true && (noLs (as.map DAt.d) && true)) = true
    rw [noLs_of nl_at]
    rfl
end Vl
namespace Vl
open PySem PySem.Spec PyProof.Rows L2
def DAt.kd : DAt → String
  | .non => "none"
  | .bl _ => "bool"
  | .int _ => "int"
  | .txt _ => "text"
  | .ref r => if r.p then "promise" else "object"
theorem at_head {K : PySem.W.Frag} {H : Hp} {v : V} (a : DAt) (h : Dp K H v a.d) : ∃ b xs, v = .ref b ∧ SqT K H b xs ∧ xs[0]? = some (.str (Str.ofString a.kd)) := by
  cases a with
  | non =>
    obtain ⟨a, y, rfl, hS, h1⟩ := dT1 h
    rw [dS] at h1
    exact ⟨a, _, rfl, hS, by rw [h1]; rfl⟩
  | bl b =>
    obtain ⟨a, y, z, rfl, hS, h1, h2⟩ := dT2 h
    rw [dS] at h1
    exact ⟨a, _, rfl, hS, by rw [h1]; rfl⟩
  | int b =>
    obtain ⟨a, y, z, rfl, hS, h1, h2⟩ := dT2 h
    rw [dS] at h1
    exact ⟨a, _, rfl, hS, by rw [h1]; rfl⟩
  | txt b =>
    obtain ⟨a, y, z, rfl, hS, h1, h2⟩ := dT2 h
    rw [dS] at h1
    exact ⟨a, _, rfl, hS, by rw [h1]; rfl⟩
  | ref r =>
    obtain ⟨a, u, y, z, rfl, hS, h0, h1, h2⟩ := dT3 h
    rw [dS] at h0
    refine ⟨a, _, rfl, hS, ?_⟩
    obtain ⟨p, v, n⟩ := r
    rw [h0]
    cases p <;> rfl
theorem kd_list (a : DAt) : ¬ a.kd = "list" := by
  cases a with
  | ref r =>
    obtain ⟨p, v, n⟩ := r
    cases p
    · show ¬ "object" = "list"
      decide
    · show ¬ "promise" = "list"
      decide
  | non =>
    show ¬ "none" = "list"
    decide
  | bl _ =>
    show ¬ "bool" = "list"
    decide
  | int _ =>
    show ¬ "int" = "list"
    decide
  | txt _ =>
    show ¬ "text" = "list"
    decide
end Vl
set_option Elab.async false
set_option linter.all false
set_option maxRecDepth 100000
set_option maxHeartbeats 4000000
namespace Vl
open PySem PySem.Spec PyProof.Rows L2
/-! ### expressions that give a new list of numbers, whatever heap beyond H -/
section
variable {K : PySem.W.Frag} {σ : L2.St} {H : Hp} {te ta tb : TE}
def Gv (te : TE) (σ : L2.St) (H : Hp) (l : List Int) : Prop := l.length ≤ 1000000 → ∀ H1, Same H H1 → ∀ Q : VK, (∀ p H2, Same H1 H2 → H1 p = none → H2 p = some (.lst (vints l)) → Q (.ref p) H2) → te σ H1 Q
def Av (K : PySem.W.Frag) (te : TE) (σ : L2.St) (H : Hp) (d : PyData) : Prop := ∀ H1, Same H H1 → ∀ Q : VK, (∀ v H2, Same H1 H2 → Dp K H2 v d → Q v H2) → te σ H1 Q
def Iv (te : TE) (σ : L2.St) (H : Hp) (i : Int) : Prop := ∀ H1, Same H H1 → ∀ Q : VK, (∀ H2, Same H1 H2 → Q (.int i) H2) → te σ H1 Q
theorem Gv.go {l l' : List Int} {H0 : Hp} {Q : VK} (g : Gv te σ H l) (e : l = l') (hl : l'.length ≤ 1000000) (s0 : Same H0 H) (k : ∀ p H', Same H0 H' → H0 p = none → H' p = some (.lst (vints l')) → Q (.ref p) H') : te σ H Q := by
  subst e
  exact g hl H (Same.refl H) Q fun p H2 s n e => k p H2 (s0.trans s) (s0.free n) e
theorem Gv.cat {a b : List Int} (ga : Gv ta σ H a) (gb : Gv tb σ H b) : Gv (tOp rCat ta tb) σ H (a ++ b) := by
  intro hl H1 s Q k
  have h2 := hl
  rw [List.length_append] at h2
  refine ga (by omega) H1 s _ fun p H2 s2 n2 e2 => gb (by omega) H2 (s.trans s2) _ fun p3 H3 s3 n3 e3 => catw (s3 _ _ e2) e3 (by omega) fun p4 n4 => k p4 _ (Same.put (s2.trans s3) ((s2.trans s3).free n4)) ((s2.trans s3).free n4) upd_same
theorem Gv.call {α : Type} {D : α → PyData} {ok : α → Prop} {e : α → List Int} (x : α) (ha : Av K ta σ H (D x)) (ho : ok x) : Gv (tCall (spW K D ok e) [] E0 (tCons ta tNil)) σ H (e x) := by
  intro hl H1 s Q k
  rw [a_call]
  refine ha H1 s _ fun v H2 s2 hd => wcall x hd ho hl fun p H3 s3 n3 e3 => k p H3 (s2.trans s3) (s2.free n3) e3
theorem Gv.none : Gv (tLst tNil) σ H [] := fun _ H1 s Q k => ⟨Nat.zero_le _, fun p n => k p _ (Same.new n) n upd_same⟩
theorem Gv.one {i : Int} (hi : Iv te σ H i) : Gv (tLst (tCons te tNil)) σ H [i] := by
  intro _ H1 s Q k
  refine hi H1 s _ fun H2 s2 => ⟨show 1 ≤ sizeLine by decide, fun p n => k p _ (Same.put s2 (s2.free n)) (s2.free n) upd_same⟩
theorem Gv.var {i : Nat} {p : Addr} {l : List Int} : σ[i]? = some (some (.ref p)) → H p = some (.lst (vints l)) → ∀ H1, Same H H1 → ∀ Q : VK, (∀ H2, Same H1 H2 → H2 p = some (.lst (vints l)) → Q (.ref p) H2) → tVar i σ H1 Q := by
  intro h e H1 s Q k
  rw [vr i h]
  exact k H1 (Same.refl H1) (s _ _ e)
/-- a list variable ahead of the cat -/
theorem Gv.catv {i : Nat} {p : Addr} {a b : List Int} (h : σ[i]? = some (some (.ref p))) (e : H p = some (.lst (vints a))) (gb : Gv tb σ H b) : Gv (tOp rCat (tVar i) tb) σ H (a ++ b) := by
  intro hl H1 s Q k
  have h2 := hl
  rw [List.length_append] at h2
  rw [a_op, vr i h]
  exact gb (by omega) H1 s _ fun p3 H3 s3 n3 e3 => catw ((s.trans s3) _ _ e) e3 (by omega) fun p4 n4 => k p4 _ (Same.put s3 (s3.free n4)) (s3.free n4) upd_same
/-- a list variable behind -/
theorem Gv.vcat {i : Nat} {p : Addr} {a b : List Int} (ga : Gv ta σ H a) (h : σ[i]? = some (some (.ref p))) (e : H p = some (.lst (vints b))) : Gv (tOp rCat ta (tVar i)) σ H (a ++ b) := by
  intro hl H1 s Q k
  have h2 := hl
  rw [List.length_append] at h2
  refine ga (by omega) H1 s _ fun p3 H3 s3 n3 e3 => ?_
  show tVar i σ H3 _
  rw [vr i h]
  exact catw e3 ((s.trans s3) _ _ e) (by omega) fun p4 n4 => k p4 _ (Same.put s3 (s3.free n4)) (s3.free n4) upd_same
theorem Iv.c {i : Int} : Iv (tC (.int i)) σ H i := fun H1 s Q k => k H1 (Same.refl H1)
theorem Iv.var {i : Nat} {j : Int} (h : σ[i]? = some (some (.int j))) : Iv (tVar i) σ H j := fun H1 s Q k => by
  rw [vr i h]
  exact k H1 (Same.refl H1)
theorem Av.var {i : Nat} {v : V} {d : PyData} (h : σ[i]? = some (some v)) (hd : Dp K H v d) : Av K (tVar i) σ H d := fun H1 s Q k => by
  rw [vr i h]
  exact k v H1 (Same.refl H1) ((SeqKeep.of s).dp hd)
theorem Av.ix {i : Nat} {a : Addr} {xs : List V} {j : Int} {u : V} {d : PyData} (h : σ[i]? = some (some (.ref a))) (hS : SqT K H a xs) (hj : atI xs j = some u) (hd : Dp K H u d) : Av K (tOp (rIxT K) (tVar i) (tC (.int j))) σ H d := fun H1 s Q k => by
  rw [a_op, vr i h]
  exact ix_t ((TupKeep.of s).sqT hS) hj (k u H1 (Same.refl H1) ((SeqKeep.of s).dp hd))
theorem Av.c {v : V} {d : PyData} (h : ∀ H, Dp K H v d) : Av K (tC v) σ H d := fun H1 s Q k => k v H1 (Same.refl H1) (h H1)
theorem Av.i {i : Int} (hi : Iv te σ H i) : Av K te σ H (.int i) := fun H1 s Q k => hi H1 s _ fun H2 s2 => k _ _ s2 (.int _)
theorem Iv.ix {i : Nat} {a : Addr} {xs : List V} {j z : Int} (h : σ[i]? = some (some (.ref a))) (hS : SqT K H a xs) (hj : atI xs j = some (.int z)) : Iv (tOp (rIxT K) (tVar i) (tC (.int j))) σ H z := fun H1 s Q k => by
  rw [a_op, vr i h]
  exact ix_t ((TupKeep.of s).sqT hS) hj (k H1 (Same.refl H1))
/-- len of a tuple -/
theorem Iv.len {a : Addr} {xs : List V} (h : ∀ H1, Same H H1 → ∀ Q : VK, Q (.ref a) H1 → te σ H1 Q) (hS : SqT K H a xs) : Iv (tCB (fun xs H Q => ∃ p ys, xs = [V.ref p] ∧ (SqL K H p ys ∨ SqT K H p ys) ∧ Q (V.int ↑ys.length) H) (tCons te tNil)) σ H (xs.length : Int) := fun H1 s Q k =>
  h H1 s _ ⟨a, xs, rfl, .inr ((TupKeep.of s).sqT hS), k H1 (Same.refl H1)⟩
end
/-! ### tests: in (…) of texts -/
section
variable {K : PySem.W.Frag} {H : Hp} {Q : VK} {p : Addr}
theorem inV_strs (z : Str) : ∀ zs : List Str, inV (.str z) (zs.map V.str) = decide (z ∈ zs)
  | [] => rfl
  | y :: zs => by
    have ih := inV_strs z zs
    unfold inV at ih ⊢
    rw [List.map_cons, List.any_cons, ih]
    show (decide (y = z) || decide (z ∈ zs)) = _
    rw [← Bool.decide_or]
    apply decide_eq_decide.mpr
    rw [List.mem_cons]
    exact ⟨fun h => h.imp (fun e => e.symm) id, fun h => h.imp (fun e => e.symm) id⟩
theorem flat_strs (zs : List Str) : (zs.map V.str).all flatV = true := by
  rw [List.all_eq_true]
  intro v h
  obtain ⟨z, _, rfl⟩ := List.mem_map.mp h
  rfl
theorem in_yes {z : Str} (zs : List Str) (h : H p = some (.tup (zs.map V.str))) (m : z ∈ zs) (q : Q (.bl true) H) : rIn K false (.str z) (.ref p) H Q :=
  ⟨p, _, rfl, .inr (.of h), rfl, flat_strs zs, by
    rw [inV_strs, decide_eq_true m]
    exact q⟩
theorem in_no {z : Str} (zs : List Str) (h : H p = some (.tup (zs.map V.str))) (m : z ∉ zs) (q : Q (.bl false) H) : rIn K false (.str z) (.ref p) H Q :=
  ⟨p, _, rfl, .inr (.of h), rfl, flat_strs zs, by
    rw [inV_strs, decide_eq_false m]
    exact q⟩
theorem nin_yes {z : Str} (zs : List Str) (h : H p = some (.tup (zs.map V.str))) (m : z ∉ zs) (q : Q (.bl true) H) : rIn K true (.str z) (.ref p) H Q :=
  ⟨p, _, rfl, .inr (.of h), rfl, flat_strs zs, by
    rw [inV_strs, decide_eq_false m]
    exact q⟩
end
section
variable {σ : L2.St} {H : Hp} {Q : VK} {ta tb : TE} {K : PySem.W.Frag}
theorem q_eq : tOp rEq ta tb σ H Q = ta σ H fun x H1 => tb σ H1 fun y H2 => rEq x y H2 Q := rfl
theorem q_ne : tOp rNe ta tb σ H Q = ta σ H fun x H1 => tb σ H1 fun y H2 => rNe x y H2 Q := rfl
theorem q_in {b : Bool} : tOp (rIn K b) ta tb σ H Q = ta σ H fun x H1 => tb σ H1 fun y H2 => rIn K b x y H2 Q := rfl
theorem q_i0 {g : Int → Int → V} : tOp (rI0 g) ta tb σ H Q = ta σ H fun x H1 => tb σ H1 fun y H2 => rI0 g x y H2 Q := rfl
theorem q_iC {C : Int → Int → Prop} {g : Int → Int → V} : tOp (rI C g) ta tb σ H Q = ta σ H fun x H1 => tb σ H1 fun y H2 => rI C g x y H2 Q := rfl
theorem q_ix : tOp (rIxT K) ta tb σ H Q = ta σ H fun x H1 => tb σ H1 fun y H2 => rIxT K x y H2 Q := rfl
end
abbrev conts : List Str := ["message", "fulfill", "break", "subscribe", "resolved", "resolved_broken", "release", "release_answer", "transfer"]
abbrev kinds : List Str := ["start", "create", "send", "transfer", "take", "turn", "collect", "pin", "release", "receive", "drop"]
end Vl
set_option Elab.async false
set_option linter.all false
set_option maxRecDepth 100000
set_option maxHeartbeats 4000000
namespace Vl
open PySem PySem.Spec PyProof.Rows L2
/-! ### comprehensions that build one item for each datum, beside some objects that change -/
/-- all but the cells in S are kept -/
def Off (S : Addr → Prop) (H H' : Hp) : Prop := ∀ b o, ¬ S b → H b = some o → H' b = some o
theorem Off.refl {S : Addr → Prop} {H : Hp} : Off S H H := fun _ _ _ h => h
theorem Off.trans {S : Addr → Prop} {H H1 H2 : Hp} (a : Off S H H1) (b : Off S H1 H2) : Off S H H2 := fun c o n h => b c o n (a c o n h)
theorem Off.of {S : Addr → Prop} {H H1 : Hp} (s : Same H H1) : Off S H H1 := fun b o _ h => s b o h
theorem Off.same {H H1 : Hp} (s : Off (fun _ => False) H H1) : Same H H1 := fun b o h => s b o (fun h => h) h
theorem Off.put {S : Addr → Prop} {H H1 : Hp} {p : Addr} {o : HO} (s : Off S H H1) (n : H p = none) : Off S H (upd H1 p o) := fun b u nb e => by
  by_cases c : b = p
  · rw [c, n] at e
    cases e
  · rw [upd_ne c]
    exact s b u nb e
inductive All2 {α : Type} (R : V → α → Prop) : List V → List α → Prop
  | nil : All2 R [] []
  | cons {v d vs ds} : R v d → All2 R vs ds → All2 R (v :: vs) (d :: ds)
theorem All2.len {α : Type} {R : V → α → Prop} : ∀ {vs ds}, All2 R vs ds → vs.length = ds.length
  | _, _, .nil => rfl
  | _, _, .cons _ t => congrArg (· + 1) (All2.len t)
theorem All2.imp {α : Type} {R T : V → α → Prop} (h : ∀ v d, R v d → T v d) : ∀ {vs ds}, All2 R vs ds → All2 T vs ds
  | _, _, .nil => .nil
  | _, _, .cons a t => .cons (h _ _ a) (All2.imp h t)
theorem All2.snoc {α : Type} {R : V → α → Prop} : ∀ {vs ds} {v : V} {d : α}, All2 R vs ds → R v d → All2 R (vs ++ [v]) (ds ++ [d])
  | _, _, _, _, .nil, r => .cons r .nil
  | _, _, _, _, .cons a t, r => .cons a (All2.snoc t r)
theorem All2.dp {α : Type} {K : PySem.W.Frag} {H : Hp} {D : α → PyData} : ∀ {vs} {ds : List α}, All2 (fun v d => Dp K H v (D d)) vs ds → DpAll K H vs (ds.map D)
  | _, _, .nil => .nil
  | _, _, .cons a t => .cons a (All2.dp t)
theorem All2.get {α : Type} {R : V → α → Prop} : ∀ {vs ds} {i : Nat} {d : α}, All2 R vs ds → ds[i]? = some d → ∃ v, vs[i]? = some v ∧ R v d
  | _, _, 0, _, .cons a t, h => by
    cases h
    exact ⟨_, rfl, a⟩
  | _, _, i + 1, _, .cons a t, h => All2.get (i := i) t h
  | _, _, _, _, .nil, h => by cases h
section
variable {α : Type} {σ : L2.St} {K : PySem.W.Frag} {g : TG} {te : TE} {vs : List Nat} {H : Hp} {Q : VK}
/-- what is built so far -/
def Acc (S : Addr → Prop) (R : Addr → Hp → V → α → Prop) (H : Hp) (ds : List α) (I : Nat → Hp → Prop) (D : Addr) (i : Nat) (H1 : Hp) : Prop :=
  H D = none ∧ ∃ acc, H1 D = some (.lst acc) ∧ All2 (R D H1) acc (ds.take i) ∧ Off S H H1 ∧ I i H1
theorem Acc.zero {S : Addr → Prop} {R : Addr → Hp → V → α → Prop} {ds : List α} {I : Nat → Hp → Prop} (hI : ∀ i H1 D x, H D = none → I i H1 → I i (upd H1 D x)) (I0 : I 0 H) (D : Addr) (n : H D = none) : Acc S R H ds I D 0 (upd H D (.lst [])) :=
  ⟨n, [], upd_same, .nil, Off.put .refl n, hI _ _ _ _ n I0⟩
theorem Acc.step {S : Addr → Prop} {R : Addr → Hp → V → α → Prop} {ds : List α} {I : Nat → Hp → Prop} (hl : ds.length ≤ 1000000) (hSl : ∀ b, S b → H b ≠ none)
    (hI : ∀ i H1 D x, H D = none → I i H1 → I i (upd H1 D x))
    (mono : ∀ D i H1 H2 v d, H D = none → I i H1 → (∃ acc, H1 D = some (.lst acc)) → (∀ b o, ¬ S b → b ≠ D → H1 b = some o → H2 b = some o) → R D H1 v d → R D H2 v d)
    {D : Addr} {i : Nat} {d : α} {H1 H2 : Hp} {y : V} (hd : ds[i]? = some d) (h : Acc S R H ds I D i H1) (o : Off S H1 H2) (r : R D H2 y d) (hi : I (i + 1) H2) :
    ∃ acc, H2 D = some (.lst acc) ∧ acc.length < sizeLine ∧ Acc S R H ds I D (i + 1) (upd H2 D (.lst (acc ++ [y]))) := by
  obtain ⟨n, acc, e, a2, o1, i1⟩ := h
  have nS : ¬ S D := fun s => hSl D s n
  have e2 := o D _ nS e
  have hlt : i < ds.length := (List.getElem?_eq_some_iff.mp hd).1
  have hz : acc.length = i := by
    rw [a2.len, List.length_take]
    omega
  refine ⟨acc, e2, ?_, n, acc ++ [y], upd_same, ?_, Off.put (o1.trans o) n, hI _ _ _ _ n hi⟩
  · exact small1000000 (by omega)
  · rw [List.take_add_one, hd]
    refine All2.snoc (a2.imp fun v d q => ?_) ?_
    · have q2 := mono D i H1 H2 v d n i1 ⟨_, e⟩ (fun b o2 nb _ h => o b o2 nb h) q
      exact mono D (i + 1) H2 _ v d n hi ⟨_, e2⟩ (fun b o2 nb nD h => by
        rw [upd_ne nD]
        exact h) q2
    · exact mono D (i + 1) H2 _ y d n hi ⟨_, e2⟩ (fun b o2 nb nD h => by
        rw [upd_ne nD]
        exact h) r
/-- over a tuple -/
theorem lcTg {a : Addr} {xs : List V} (S : Addr → Prop) (R : Addr → Hp → V → α → Prop) (ds : List α) (I : Nat → Hp → Prop) (hl : ds.length ≤ 1000000) (hSl : ∀ b, S b → H b ≠ none)
    (hI : ∀ i H1 D x, H D = none → I i H1 → I i (upd H1 D x)) (I0 : I 0 H)
    (mono : ∀ D i H1 H2 v d, H D = none → I i H1 → (∃ acc, H1 D = some (.lst acc)) → (∀ b o, ¬ S b → b ≠ D → H1 b = some o → H2 b = some o) → R D H1 v d → R D H2 v d)
    (hS : ∀ H1, Off S H H1 → SqT K H1 a xs) (hD : xs.length = ds.length)
    (step : ∀ D i x d H1, xs[i]? = some x → ds[i]? = some d → H D = none → (∃ acc, H1 D = some (.lst acc)) → Off S H H1 → I i H1 → ∀ N : VK, (∀ y H2, Off S H1 H2 → R D H2 y d → I (i + 1) H2 → N y H2) →
      g x (wipe σ vs) H1 fun σ2 H2 => wipe σ2 vs = wipe σ vs ∧ te σ2 H2 N)
    (hd : ∀ D H1 ys, H D = none → Off S H H1 → H1 D = some (.lst ys) → All2 (R D H1) ys ds → I ds.length H1 → Q (.ref D) H1) : (∃ xs, SqT K H a xs) ∧ LcR (Itt K a) g tYes te vs σ H Q := by
  refine lcT (Acc S R H ds I) (hS H .refl) (fun D n => Acc.zero hI I0 D n) (fun D i H1 _ h => hS H1 h.2.choose_spec.2.2.1) (fun D i x H1 hx h => ?_) (fun D H1 h => ?_)
  · have hlt : i < xs.length := (List.getElem?_eq_some_iff.mp hx).1
    have hd : ds[i]? = some ds[i] := List.getElem?_eq_getElem (by omega)
    obtain ⟨n, acc, e, a2, o1, i1⟩ := id h
    exact step D i x _ H1 hx hd n ⟨acc, e⟩ o1 i1 _ fun y H2 o r hi => Acc.step hl hSl hI mono hd h o r hi
  · obtain ⟨n, acc, e, a2, o1, i1⟩ := h
    rw [hD] at a2 i1
    rw [List.take_length] at a2
    exact hd D H1 acc n o1 e a2 i1
/-- over a list -/
theorem lcLg {a : Addr} {xs : List V} (S : Addr → Prop) (R : Addr → Hp → V → α → Prop) (ds : List α) (I : Nat → Hp → Prop) (hl : ds.length ≤ 1000000) (hSl : ∀ b, S b → H b ≠ none)
    (hI : ∀ i H1 D x, H D = none → I i H1 → I i (upd H1 D x)) (I0 : I 0 H)
    (mono : ∀ D i H1 H2 v d, H D = none → I i H1 → (∃ acc, H1 D = some (.lst acc)) → (∀ b o, ¬ S b → b ≠ D → H1 b = some o → H2 b = some o) → R D H1 v d → R D H2 v d)
    (hS : ∀ H1, Off S H H1 → SqL K H1 a xs) (hD : xs.length = ds.length)
    (step : ∀ D i x d H1, xs[i]? = some x → ds[i]? = some d → H D = none → (∃ acc, H1 D = some (.lst acc)) → Off S H H1 → I i H1 → ∀ N : VK, (∀ y H2, Off S H1 H2 → R D H2 y d → I (i + 1) H2 → N y H2) →
      g x (wipe σ vs) H1 fun σ2 H2 => wipe σ2 vs = wipe σ vs ∧ te σ2 H2 N)
    (hd : ∀ D H1 ys, H D = none → Off S H H1 → H1 D = some (.lst ys) → All2 (R D H1) ys ds → I ds.length H1 → Q (.ref D) H1) : (∃ xs, SqL K H a xs) ∧ LcR (Itl K a) g tYes te vs σ H Q := by
  refine lcL (Acc S R H ds I) (hS H .refl) (fun D n => Acc.zero hI I0 D n) (fun D i H1 _ h => hS H1 h.2.choose_spec.2.2.1) (fun D i x H1 hx h => ?_) (fun D H1 h => ?_)
  · have hlt : i < xs.length := (List.getElem?_eq_some_iff.mp hx).1
    have hd : ds[i]? = some ds[i] := List.getElem?_eq_getElem (by omega)
    obtain ⟨n, acc, e, a2, o1, i1⟩ := id h
    exact step D i x _ H1 hx hd n ⟨acc, e⟩ o1 i1 _ fun y H2 o r hi => Acc.step hl hSl hI mono hd h o r hi
  · obtain ⟨n, acc, e, a2, o1, i1⟩ := h
    rw [hD] at a2 i1
    rw [List.take_length] at a2
    exact hd D H1 acc n o1 e a2 i1
/-- over a range -/
theorem lcNg (S : Addr → Prop) (R : Addr → Hp → V → α → Prop) (ds : List α) (I : Nat → Hp → Prop) (hl : ds.length ≤ 1000000) (hSl : ∀ b, S b → H b ≠ none)
    (hI : ∀ i H1 D x, H D = none → I i H1 → I i (upd H1 D x)) (I0 : I 0 H)
    (mono : ∀ D i H1 H2 v d, H D = none → I i H1 → (∃ acc, H1 D = some (.lst acc)) → (∀ b o, ¬ S b → b ≠ D → H1 b = some o → H2 b = some o) → R D H1 v d → R D H2 v d)
    {lo : Int} {n : Nat} (hD : n = ds.length)
    (step : ∀ D i d H1, ds[i]? = some d → H D = none → (∃ acc, H1 D = some (.lst acc)) → Off S H H1 → I i H1 → ∀ N : VK, (∀ y H2, Off S H1 H2 → R D H2 y d → I (i + 1) H2 → N y H2) →
      g (.int (lo + i)) (wipe σ vs) H1 fun σ2 H2 => wipe σ2 vs = wipe σ vs ∧ te σ2 H2 N)
    (hd : ∀ D H1 ys, H D = none → Off S H H1 → H1 D = some (.lst ys) → All2 (R D H1) ys ds → I ds.length H1 → Q (.ref D) H1) : LcR (Itr lo n) g tYes te vs σ H Q := by
  subst hD
  refine lcN (Acc S R H ds I) (fun D n => Acc.zero hI I0 D n) (fun D i H1 hx h => ?_) (fun D H1 h => ?_)
  · have hd : ds[i]? = some ds[i] := List.getElem?_eq_getElem hx
    obtain ⟨n, acc, e, a2, o1, i1⟩ := id h
    exact step D i _ H1 hd n ⟨acc, e⟩ o1 i1 _ fun y H2 o r hi => Acc.step hl hSl hI mono hd h o r hi
  · obtain ⟨n, acc, e, a2, o1, i1⟩ := h
    rw [List.take_length] at a2
    exact hd D H1 acc n o1 e a2 i1
end
theorem toBmK {X : Cx} {k : PySem.W.Frag} (hK : X.K = k) {e : Expr} {T : String} {r : V → List V → Hp → VK → Prop} {to : TE} {t : TA} (h : PE X e (tBM X.K T r to t)) : PE X e (tBM k T r to t) := hK ▸ h
/-! ### rows of lists of numbers -/
/-- v is a list of numbers -/
def IsL (H : Hp) (v : V) (l : List Int) : Prop := ∃ p, v = .ref p ∧ H p = some (.lst (vints l))
theorem IsL.mono {H H' : Hp} {v : V} {l : List Int} (s : Same H H') (h : IsL H v l) : IsL H' v l := by
  obtain ⟨p, rfl, e⟩ := h
  exact ⟨p, rfl, s _ _ e⟩
section
variable {α : Type} {σ : L2.St} {K : PySem.W.Frag} {g : TG} {te : TE} {vs : List Nat} {H : Hp} {Q : VK}
theorem flat_le {β : Type} (e : α → List β) : ∀ {ds : List α} {d : α}, d ∈ ds → (e d).length ≤ (ds.flatMap e).length
  | x :: ds, d, h => by
    rw [List.flatMap_cons, List.length_append]
    rcases List.mem_cons.mp h with r | r
    · rw [r]
      omega
    · have := flat_le e r
      omega
/-- [f(x) for x in t], each a new list of numbers -/
theorem lcW {a : Addr} {xs : List V} {D : α → PyData} {ok : α → Prop} {e : α → List Int} (ds : List α) (hS : SqT K H a xs) (hA : DpAll K H xs (ds.map D)) (hok : ∀ d ∈ ds, ok d) (hl : (ds.flatMap e).length ≤ 1000000) (hn : ds.length ≤ 1000000)
    (step : ∀ (N : VK) x H1, spW K D ok e [x] H1 N E0 → g x (wipe σ vs) H1 fun σ2 H2 => wipe σ2 vs = wipe σ vs ∧ te σ2 H2 N)
    (hd : ∀ D H1 ys, H D = none → Same H H1 → H1 D = some (.lst ys) → All2 (IsL H1) ys (ds.map e) → Q (.ref D) H1) : (∃ xs, SqT K H a xs) ∧ LcR (Itt K a) g tYes te vs σ H Q := by
  refine lcTg (fun _ => False) (fun D H1 v d => ∃ p, v = .ref p ∧ p ≠ D ∧ H1 p = some (.lst (vints (e d)))) ds (fun _ _ => True) hn (fun _ h => h.elim) (fun _ _ _ _ _ _ => True.intro) True.intro
    (fun D i H1 H2 v d _ _ _ h q => ?_) (fun H1 o => (TupKeep.of o.same).sqT hS) (by rw [DpAll.length hA, List.length_map]) (fun D i x d H1 hx hd n hacc o _ N k => ?_) (fun D H1 ys n o h a2 _ => ?_)
  · obtain ⟨p, rfl, np, q⟩ := q
    exact ⟨p, rfl, np, h _ _ (fun h => h) np q⟩
  · obtain ⟨d2, hd2, hq⟩ := DpAll.get hA hx
    rw [List.getElem?_map, hd] at hd2
    cases hd2
    have hm := List.mem_of_getElem? hd
    have hz : (e d).length ≤ 1000000 := by
      have := flat_le e hm
      omega
    refine step N x H1 (wcall d ((SeqKeep.of o.same).dp hq) (hok d hm) hz fun p H2 s2 n2 e2 => k _ _ (Off.of s2) ⟨p, rfl, fun c => ?_, e2⟩ True.intro)
    obtain ⟨acc, ha⟩ := hacc
    rw [c, ha] at n2
    cases n2
  · refine hd D H1 ys n o.same h ?_
    clear h hd
    have : ∀ {ys : List V} {ds : List α}, All2 (fun v d => ∃ p, v = V.ref p ∧ p ≠ D ∧ H1 p = some (.lst (vints (e d)))) ys ds → All2 (IsL H1) ys (ds.map e) := by
      intro ys ds h
      induction h with
      | nil => exact .nil
      | cons r _ ih =>
        obtain ⟨p, rfl, _, q⟩ := r
        exact .cons ⟨p, rfl, q⟩ ih
    exact this a2
end
end Vl
set_option Elab.async false
set_option linter.all false
set_option maxRecDepth 100000
set_option maxHeartbeats 4000000
namespace Vl
open PySem PySem.Spec PyProof.Rows L2
/-- a row of lists of numbers to one -/
def spRow (K : PySem.W.Frag) : Sp := Sp1 fun a H Q _ => ∃ p ys ls, a = .ref p ∧ SqL K H p ys ∧ All2 (IsL H) ys ls ∧ ls.length ≤ 1000000 ∧ (cntd ls.length ++ ls.flatten).length ≤ 1000000 ∧ ∀ q H', Same H H' → H q = none → H' q = some (.lst (vints (cntd ls.length ++ ls.flatten))) → Q (.ref q) H'
def rSIdx : V → List V → Hp → VK → Prop := fun x xs H Q => ∃ a b i rest, x = .str a ∧ xs = [.str b] ∧ Builtin.Str.occurrences a b 0 a.length 1 = i :: rest ∧ Q (.int (i : Nat)) H
section
variable {α : Type} {K : PySem.W.Frag} {σ : L2.St} {H : Hp} {c : Nat}
theorem set_self {i : Nat} {x : Option V} (h : i < σ.length) : (σ.set i x)[i]? = some x := by
  rw [List.getElem?_set_self h]
theorem wipe1 : wipe σ [c] = σ.set c none := rfl
theorem wipe_set {x : Option V} : wipe ((σ.set c none).set c x) [c] = σ.set c none := by
  rw [wipe1, List.set_set, List.set_set]
/-- row([f(x) for x in t]) -/
theorem Gv.row {tt : TE} {D : α → PyData} {ok : α → Prop} {e : α → List Int} (ds : List α) (ht : Av K tt σ H (.tuple (ds.map D))) (hok : ∀ d ∈ ds, ok d) (hn : ds.length ≤ 1000000) (hc : c < σ.length) :
    Gv (tCall (spRow K) [] E0 (tCons (tLc (iTup K tt) (gName c) tYes (tCall (spW K D ok e) [] E0 (tCons (tVar c) tNil)) [c]) tNil)) σ H (rowd e ds) := by
  intro hl H1 s Q k
  rw [a_call, a_cons, a_lc, a_iTup]
  refine ht H1 s _ fun v H2 s2 hd => ?_
  rw [dT] at hd
  obtain ⟨a, xs, rfl, hS, hA⟩ := hd
  have hl2 := hl
  rw [rowd, List.length_append] at hl2
  refine ⟨a, rfl, lcW (e := e) ds hS hA hok (by omega) hn (fun N x H3 hs => ?_) fun D H3 ys n s3 hD a2 => ?_⟩
  · rw [wipe1]
    refine ⟨wipe_set, ?_⟩
    rw [a_call, a_cons, vr c (set_self (by rw [List.length_set]; exact hc)), a_nil]
    exact hs
  · have e1 : (ds.map e).flatten = ds.flatMap e := rfl
    refine ⟨_, rfl, D, ys, ds.map e, rfl, .of hD, a2, by rw [List.length_map]; exact hn, ?_, fun q H4 s4 n4 e4 => k q H4 ((s2.trans s3).trans s4) ((s2.trans s3).free n4) ?_⟩
    · rw [e1, List.length_map]
      exact hl
    · rw [e1, List.length_map] at e4
      exact e4
/-- [signs.index(x) for x in text] -/
theorem Gv.sign {i j m : Nat} {ks : List Nat} {S : Str} (hi : σ[i]? = some (some (.str (ofIx ks)))) (hj : σ[j]? = some (some (.str S))) (hjc : j ≠ c) (hc : c < σ.length) (hk : ∀ k ∈ ks, k < m)
    (hs : ∀ k < m, Builtin.Str.occurrences S ⟨#[sgAt k]⟩ 0 S.length 1 = [k]) : Gv (tLc (iStr (tVar i)) (gName c) tYes (tBM K "str" rSIdx (tVar j) (tCons (tVar c) tNil)) [c]) σ H (ks.map nat) := by
  intro hl H1 s Q k
  rw [List.length_map] at hl
  rw [a_lc, a_iStr, vr i hi]
  refine ⟨_, rfl, lcS (fun D i H2 => H1 D = Option.none ∧ H2 D = some (.lst (vints ((ks.take i).map nat))) ∧ Same H1 H2) (fun D n => ⟨n, upd_same, Same.new n⟩) (fun D i x H2 hx ⟨n, e, s2⟩ => ?_) fun D H2 ⟨n, e, s2⟩ => ?_⟩
  · rw [ofIx_list, List.getElem?_map] at hx
    cases hki : ks[i]? with
    | none =>
      rw [hki] at hx
      cases hx
    | some z =>
      rw [hki] at hx
      cases hx
      have hz := hk z (List.mem_of_getElem? hki)
      rw [wipe1]
      refine ⟨wipe_set, ?_⟩
      rw [a_yes, if_pos rfl, a_bm, vr j (by rw [List.getElem?_set_ne (Ne.symm hjc), List.getElem?_set_ne (Ne.symm hjc)]; exact hj), a_cons, vr c (set_self (by rw [List.length_set]; exact hc)), a_nil]
      refine ⟨rfl, S, ⟨#[sgAt z]⟩, z, [], rfl, rfl, hs z hz, _, e, ?_, n, ?_, Same.put s2 n⟩
      · rw [vlen, List.length_map, List.length_take]
        exact small1000000 (by omega)
      · rw [upd_same, List.take_add_one, hki, List.map_append, vapp]
        rfl
  · rw [ofIx_list, List.length_map, List.take_length] at e
    exact k D H2 s2 n e
theorem sg_idx95 : ∀ k < 95, Builtin.Str.occurrences (ofIx (List.range 95)) ⟨#[sgAt k]⟩ 0 (ofIx (List.range 95)).length 1 = [k] := by decide +kernel
theorem sg_idxC : ∀ k < 94, Builtin.Str.occurrences charsS ⟨#[sgAt k]⟩ 0 charsS.length 1 = [k] := by
  rw [chars_ix]
  exact sg_idx
theorem charsNl : charsS ++ ("\n" : Str) = ofIx (List.range 95) := by decide +kernel
/-- what the law counts -/
def Cok (n : Nat) : Prop := (cntd n).length ≤ 2000
theorem cok {n : Nat} (h : n ≤ 2000000000) : Cok n := Nat.le_trans (cnt5 h) (by decide)
end
end Vl
namespace Vl
theorem en_pos (w : DWt) : 1 ≤ w.en.length := by
  rw [DWt.en, List.length_append]
  have := cnt_pos w.m
  omega
theorem flat_pos {α β : Type} (e : α → List β) (h : ∀ x, 1 ≤ (e x).length) : ∀ l : List α, l.length ≤ (l.flatMap e).length
  | [] => Nat.zero_le _
  | x :: l => by
    rw [List.flatMap_cons, List.length_append, List.length_cons]
    have := flat_pos e h l
    have := h x
    omega
theorem shl {m : DMsg} {t : DTg} {w : DWt} {q : Nat} {sh : List DWt} (h : (((DCo.message m t w q sh).k :: (DCo.message m t w q sh).e).length ≤ 1000000)) : sh.length ≤ 1000000 := by
  simp only [DCo.e, rowd, List.length_append, List.length_cons] at h
  have := flat_pos _ en_pos sh
  omega
theorem shl2 {r : Bool} {n : Nat} {x : DVa} {sh : List DWt} (h : (((DCo.fulfill r n x sh).k :: (DCo.fulfill r n x sh).e).length ≤ 1000000)) : sh.length ≤ 1000000 := by
  simp only [DCo.e, rowd, List.length_append, List.length_cons] at h
  have := flat_pos _ en_pos sh
  omega
theorem shl3 {x : DVa} {sh : List DWt} (h : (((DCo.transfer x sh).k :: (DCo.transfer x sh).e).length ≤ 1000000)) : sh.length ≤ 1000000 := by
  simp only [DCo.e, rowd, List.length_append, List.length_cons] at h
  have := flat_pos _ en_pos sh
  omega
end Vl
namespace Vl
open PySem PySem.Spec PyProof.Rows L2
theorem lidx {K : PySem.W.Frag} {H : Hp} {Q : VK} {p : Addr} {z : Str} (zs : List Str) (j : Nat) (h : H p = some (.lst (zs.map V.str))) (hj : zs[j]? = some z) (hn : ∀ m, m < j → zs[m]? ≠ some z) (q : Q (.int (j : Nat)) H) : rIndex K (.ref p) [.str z] H Q := by
  refine ⟨p, _, _, j, .str z, rfl, rfl, .of h, rfl, flat_strs zs, by rw [List.getElem?_map, hj]; rfl, ?_, fun m z' hm hz => ?_, q⟩
  · show decide (z = z) = true
    exact decide_eq_true rfl
  · rw [List.getElem?_map] at hz
    cases hq : zs[m]? with
    | none =>
      rw [hq] at hz
      cases hz
    | some y =>
      rw [hq] at hz
      cases hz
      show decide (y = z) = false
      exact decide_eq_false fun e => hn m hm (by rw [hq, e])
end Vl
set_option Elab.async false
set_option linter.all false
set_option maxRecDepth 100000
set_option maxHeartbeats 4000000
namespace Vl
open PySem PySem.Spec PyProof.Rows L2
/-! ### constants of the text as data -/
mutual
def dpB (K : PySem.W.Frag) : PyData → Value → Bool
  | .none, .none => true
  | .bool b, .bool c => b == c
  | .int i, .int j _ => decide (i = j)
  | .str x, .str y _ => decide (x = y)
  | .tuple ds, .ref a => (match K.lookup a with
    | some ⟨.type c, _, .seq its _, _⟩ => decide (c = "tuple") && (decide (its.size ≤ sizeLine) && dpsB K ds its.toList)
    | _ => false)
  | _, _ => false
def dpsB (K : PySem.W.Frag) : List PyData → List Value → Bool
  | [], [] => true
  | d :: ds, u :: us => dpB K d u && dpsB K ds us
  | _, _ => false
end
mutual
theorem dpB_ok {K : PySem.W.Frag} : ∀ (d : PyData) (u : Value), dpB K d u = true → ∃ v, RelV v u ∧ ∀ H, Dp K H v d
  | .none, u, h => by
    cases u <;> first
      | exact ⟨.non, rfl, fun _ => .non⟩
      | (unfold dpB at h; cases h)
  | .bool b, u, h => by
    cases u with
    | bool c =>
      have e : b = c := by
        unfold dpB at h
        exact eq_of_beq h
      exact ⟨.bl b, by rw [e]; rfl, fun _ => .bl b⟩
    | _ =>
      unfold dpB at h
      cases h
  | .int i, u, h => by
    cases u with
    | int j t =>
      have e : i = j := by
        unfold dpB at h
        exact of_decide_eq_true h
      exact ⟨.int i, ⟨t, by rw [e]⟩, fun _ => .int i⟩
    | _ =>
      unfold dpB at h
      cases h
  | .str x, u, h => by
    cases u with
    | str y t =>
      have e : x = y := by
        unfold dpB at h
        exact of_decide_eq_true h
      exact ⟨.str x, ⟨t, by rw [e]⟩, fun _ => .str x⟩
    | _ =>
      unfold dpB at h
      cases h
  | .tuple ds, u, h => by
    cases u with
    | ref a =>
      unfold dpB at h
      cases q : K.lookup a with
      | none =>
        rw [q] at h
        cases h
      | some o =>
        obtain ⟨oc, od, dt, osl⟩ := o
        rw [q] at h
        cases oc with
        | type c =>
          cases dt with
          | seq its n =>
            obtain ⟨h1, h2⟩ := He.ba h
            obtain ⟨h3, h4⟩ := He.ba h2
            obtain ⟨vs, r, all⟩ := dpsB_ok ds its.toList h4
            exact ⟨.ref a, rfl, fun H => .tup (.inr ⟨_, its, n, q, congrArg Value.type (of_decide_eq_true h1), rfl, of_decide_eq_true h3, r⟩) (all H)⟩
          | _ => cases h
        | _ => cases dt <;> cases h
    | _ =>
      unfold dpB at h
      cases h
  | .list ds, u, h => by
    unfold dpB at h
    cases u <;> cases h
  | .dict es, u, h => by
    unfold dpB at h
    cases u <;> cases h
theorem dpsB_ok {K : PySem.W.Frag} : ∀ (ds : List PyData) (us : List Value), dpsB K ds us = true → ∃ vs, Vals vs us ∧ ∀ H, DpAll K H vs ds
  | [], [], _ => ⟨[], .nil, fun _ => .nil⟩
  | [], _ :: _, h => by
    unfold dpsB at h
    cases h
  | _ :: _, [], h => by
    unfold dpsB at h
    cases h
  | d :: ds, u :: us, h => by
    unfold dpsB at h
    obtain ⟨h1, h2⟩ := He.ba h
    obtain ⟨v, r, q⟩ := dpB_ok d u h1
    obtain ⟨vs, rs, qs⟩ := dpsB_ok ds us h2
    exact ⟨v :: vs, .cons r rs, fun H => .cons (q H) (qs H)⟩
end
/-- the module's name x is the tuple d -/
def tupTop (K : PySem.W.Frag) (a : Addr) : Bool := match K.lookup a with
  | some ⟨.type c, none, _, _⟩ => decide (c = "tuple")
  | _ => false
theorem tupTop_ok {K : PySem.W.Frag} {a : Addr} (h : tupTop K a = true) (H : Hp) : tyV K "tuple" (.ref a) H := by
  unfold tupTop at h
  split at h
  · rename_i c dt sl e
    exact .inr (.inl ⟨rfl, _, e, congrArg Value.type (of_decide_eq_true h), rfl⟩)
  · cases h
def conD (K : PySem.W.Frag) (q : Str × PyData) : Bool := dpB K q.2 (.ref (He.ga K q.1)) && tupTop K (He.ga K q.1)
theorem conD_ty {K : PySem.W.Frag} {q : Str × PyData} (h : conD K q = true) (H : Hp) : tyV K "tuple" (.ref (He.ga K q.1)) H := tupTop_ok (He.ba h).2 H
theorem conD_ok {K : PySem.W.Frag} {q : Str × PyData} (h : conD K q = true) (H : Hp) : Dp K H (.ref (He.ga K q.1)) q.2 := by
  obtain ⟨v, r, p⟩ := dpB_ok _ _ (He.ba h).1
  have e : v = .ref (He.ga K q.1) := r.inj (show RelV (.ref (He.ga K q.1)) (.ref (He.ga K q.1)) from rfl)
  rw [← e]
  exact p H
/-! ### an exception class of the text over ValueError, whose chain behind itself is own classes and then ValueError's -/
def exoB (K : PySem.W.Frag) (C : Addr) : Bool := match K.lookup C with
  | some ⟨.type t, _, .cls cd, sl⟩ => (match cd.mro, sl.toList with
    | .ref C' :: bm, [_, _, _, _, some (.builtin n), _] => decide (t = "type") && (decide (C' = C) && (decide (n = "ValueError.__new__") && (!cd.hasDel && (cd.hasDict && PySem.HandSPX.refsVE bm))))
    | _, _ => false)
  | _ => false
theorem exoB_ok {K : PySem.W.Frag} {C : Addr} (h : exoB K C = true) :
    ∃ nm q N bs bm sn sub ab col dd k0 k1 k2 k3 k5, K.lookup C = some (excClassObj nm q C N bs bm true sn sub ab col dd k0 k1 k2 k3 k5 "ValueError.__new__") ∧ PySem.HandSPX.refsVE bm = true := by
  unfold exoB at h
  split at h
  · rename_i t od cd sl ho
    split at h
    · rename_i C' bm k0 k1 k2 k3 n k5 hm hs
      simp only [Bool.and_eq_true, decide_eq_true_eq, Bool.not_eq_true'] at h
      obtain ⟨rfl, rfl, rfl, hdel, hdct, hv⟩ := h
      obtain ⟨nm, bs, mro, ns, qn, hd, sn, sub, ab, col, del⟩ := cd
      dsimp only at hm hdel hdct
      subst hm hdel hdct
      obtain ⟨l⟩ := sl
      dsimp only at hs
      subst hs
      exact ⟨nm, qn, ns, bs, bm, sn, sub, ab, col, od, k0, k1, k2, k3, k5, ho, hv⟩
    · cases h
  · cases h
structure ExD where
  name : Str
  bases : List Str
def ExD.C (e : ExD) (K : PySem.W.Frag) : Addr := He.ga K e.name
def ExD.f (e : ExD) (K : PySem.W.Frag) : Addr := He.ma K (e.C K) "__init__"
def ExD.ok (K : PySem.W.Frag) (e : ExD) : Bool := exoB K (e.C K) && (PySem.W.keepIn K (.ref (e.C K)) &&
  (decide (PySem.W.subIn K (.ref (e.C K)) (.type "BaseException") = some true) && (decide (PySem.W.typeIn K (.ref (e.C K)) = some (.type "type")) &&
  (He.eqO (PySem.W.findIn K (.ref (e.C K)) "__setattr__") (some (some (.builtin "object.__setattr__"))) &&
  (He.eqO (PySem.W.findIn K (.ref (e.C K)) "__getattribute__") (some (some (.builtin "BaseException.__getattribute__"))) &&
  (He.eqO (PySem.W.findIn K (.ref (e.C K)) "__getattr__") (some none) &&
  (He.eqO (PySem.W.findIn K (.ref (e.C K)) "__init__") (some (some (.ref (e.f K)))) &&
  (decide (PySem.W.typeIn K (.ref (e.f K)) = some (.type "function")) &&
  (PySem.W.hasDictIn K (e.C K) && (PySem.W.isClsIn K (e.C K) &&
  decide (PySem.W.exmOne K (.ref (e.C K)) (.ref (e.C K)) = some true)))))))))))
structure ExT (K : PySem.W.Frag) (e : ExD) : Prop where
  oex : OexC K (e.C K)
  ga : PySem.W.findIn K (.ref (e.C K)) "__getattribute__" = some (some (.builtin "BaseException.__getattribute__"))
  gg : PySem.W.findIn K (.ref (e.C K)) "__getattr__" = some none
  ini : PySem.W.findIn K (.ref (e.C K)) "__init__" = some (some (.ref (e.f K)))
  tf : PySem.W.typeIn K (.ref (e.f K)) = some (.type "function")
  hd : PySem.W.hasDictIn K (e.C K) = true
  isc : PySem.W.isClsIn K (e.C K) = true
  exm : PySem.W.exmOne K (.ref (e.C K)) (.ref (e.C K)) = some true
theorem ExD.of {K : PySem.W.Frag} {e : ExD} (h : e.ok K = true) : ExT K e := by
  unfold ExD.ok at h
  simp only [Bool.and_eq_true, decide_eq_true_eq] at h
  obtain ⟨h1, h2, h3, h4, h5, h6, h7, h8, h9, h10, h11, h12⟩ := h
  exact ⟨⟨exoB_ok h1, He.eqO_ok h5, h3, h4, h2⟩, He.eqO_ok h6, He.eqO_ok h7, He.eqO_ok h8, h9, h10, h11, h12⟩
/-! ### an __init__ of such a class that says super() -/
structure SupD where
  name : Str
  qual : Str
  params : Arguments
  body : List Stmt
  scope : Scope
  file : Str
def SupD.C (d : SupD) (K : PySem.W.Frag) : Addr := He.ga K d.name
def SupD.f (d : SupD) (K : PySem.W.Frag) : Addr := He.ma K (d.C K) "__init__"
abbrev FnWc : Type := Option (Str × Str × Arguments × FuncBody × Scope × Addr × List Str × Addr)
def SupD.w (K : PySem.W.Frag) (d : SupD) : FnWc := match K.lookup (d.f K) with
  | some ⟨_, _, .func fd, _⟩ => some (fd.name, fd.qualname, fd.params, fd.body, fd.scope, fd.globals, fd.closure.map (·.1), fd.builtins)
  | _ => none
def SupD.val (d : SupD) : FnWc := some ("__init__", d.qual, d.params, .stmts d.body, d.scope, mainGlobals, ["__class__"], builtinsNs)
def isNone : Value → Bool
  | .none => true
  | _ => false
theorem isNone_ok {v : Value} (h : isNone v = true) : v = .none := by
  cases v with
  | none => rfl
  | _ => cases h
def cellB (K : PySem.W.Frag) (C cc : Addr) : Bool := match K.lookup cc with
  | some ⟨_, _, .cell (some (.ref D)), _⟩ => decide (D = C)
  | _ => false
def fileB (K : PySem.W.Frag) (cda : Addr) (z : Str) : Bool := match K.lookup cda with
  | some ⟨_, _, .fields vs, _⟩ => (match (vs[2]? : Option Value) with
    | some (Value.str file _) => z == file
    | _ => false)
  | _ => false
def SupD.ok (K : PySem.W.Frag) (d : SupD) : Bool := match K.lookup (d.f K) with
  | some ⟨_, _, .func fd, _⟩ => (match fd.closure, fd.code with
    | [(_, cc)], .ref cda => isNone fd.defaults && (cellB K (d.C K) cc && (fileB K cda d.file && (PySem.W.codeIn K (.ref cda) d.qual && (He.eqO (PySem.W.ks_superIn K (d.C K) (d.C K) "__init__") (some (some (.builtin "ValueError.__init__"))) &&
      (decide (PySem.W.subIn K (.ref (d.C K)) (.type "ValueError") = some true) && (decide (PySem.W.mroIn K (d.C K) (.ref (d.C K)) = some true) && He.eqO (PySem.W.nsIn K cStatics "thirdparty.any") (some none)))))))
    | _, _ => false)
  | _ => false
structure SupK (K : PySem.W.Frag) (d : SupD) (cc cda : Addr) (fd : FuncData) : Prop where
  fn : ∃ oc od osl, K.lookup (d.f K) = some ⟨oc, od, .func fd, osl⟩
  fdE : ∃ kV doc pm an ctv, fd = PySem.W.fnX "__init__" d.qual d.params d.body d.scope [("__class__", cc)] .none kV doc pm an (.ref cda) ctv
  code : ∃ ccl cdd vs ccs file tf, K.lookup cda = some ⟨ccl, cdd, .fields vs, ccs⟩ ∧ vs[2]? = some (.str file tf) ∧ (d.file == file) = true
  cell : ∃ cl cld csl, K.lookup cc = some ⟨cl, cld, .cell (some (.ref (d.C K))), csl⟩
  cod : PySem.W.codeIn K (.ref cda) d.qual = true
  sup : PySem.W.ks_superIn K (d.C K) (d.C K) "__init__" = some (some (.builtin "ValueError.__init__"))
  sub : PySem.W.subIn K (.ref (d.C K)) (.type "ValueError") = some true
  mro : PySem.W.mroIn K (d.C K) (.ref (d.C K)) = some true
  opq : PySem.W.nsIn K cStatics "thirdparty.any" = some none
theorem SupD.of {K : PySem.W.Frag} {d : SupD} (e : d.w K = d.val) (c : d.ok K = true) : ∃ cc cda fd, SupK K d cc cda fd := by
  unfold SupD.w at e
  unfold SupD.ok at c
  cases q : K.lookup (d.f K) with
  | none =>
    rw [q] at c
    cases c
  | some o =>
    obtain ⟨oc, od, dt, osl⟩ := o
    rw [q] at c e
    cases dt with
    | func fd =>
      obtain ⟨n1, n2, n3, n4, n5, n6, n7, n8, n9, n10, n11, n12, n13, n14, n15⟩ := fd
      have e2 : (some (n1, n2, n3, n4, n5, n6, n7.map (·.1), n15) : FnWc) = some (("__init__" : Str), d.qual, d.params, FuncBody.stmts d.body, d.scope, mainGlobals, ([("__class__" : Str)] : List Str), builtinsNs) := e
      simp only [Option.some.injEq, Prod.mk.injEq] at e2
      obtain ⟨h1, h2, h3, h4, h5, h6, h7, h8⟩ := e2
      subst h1 h2 h3 h4 h5 h6 h8
      dsimp only at c
      split at c
      · rename_i nn cc cda
        have hn : nn = "__class__" := by
          have := h7
          simpa using this
        subst hn
        simp only [Bool.and_eq_true, decide_eq_true_eq] at c
        obtain ⟨c1, c2, c3, c4, c5, c6, c7, c8⟩ := c
        rw [isNone_ok c1] at q
        refine ⟨cc, cda, _, ⟨oc, od, osl, q⟩, ⟨n9, n10, n11, n12, n14, rfl⟩, ?_, ?_, c4, He.eqO_ok c5, c6, c7, He.eqO_ok c8⟩
        · unfold fileB at c3
          split at c3
          · rename_i ccl cdd vs ccs ho
            split at c3
            · rename_i file tf hv
              exact ⟨ccl, cdd, vs, ccs, file, tf, ho, hv, c3⟩
            · cases c3
          · cases c3
        · unfold cellB at c2
          split at c2
          · rename_i cl cld D csl ho
            rw [of_decide_eq_true c2] at ho
            exact ⟨cl, cld, csl, ho⟩
          · cases c2
      · cases c
    | _ => cases c
/-! ### the Hook: facts of the objects at the addresses as -/
structure Facts where
  fa : List He.Fa
  fn : List He.DefD
  cs : List (Str × PyData)
  ex : List ExD
  su : List SupD
def Facts.more (F : Facts) (K : PySem.W.Frag) : Bool := (F.cs.all fun q => conD K q) && ((F.ex.all fun e => e.ok K) && F.su.all fun d => d.ok K)
abbrev AlF : Type := Bool × He.AlD × List FnWc
def Facts.obs (F : Facts) (K : PySem.W.Frag) : AlF := (F.more K, He.obsD F.fa F.fn K, F.su.map fun d => d.w K)
def Facts.val (F : Facts) : AlF := (true, He.valD F.fn, F.su.map SupD.val)
def Facts.Says (F : Facts) (K : PySem.W.Frag) : Prop := F.obs K = F.val
def Facts.obsG (as : List Addr) (F : Facts) (g : Addr → Option Obj) : AlF := F.obs (He.frG g as)
def Facts.hook (as : List Addr) (F : Facts) : PySem.W.Hook where
  α := AlF
  obs := fun s => F.obsG as s.heap.get?
  val := fun _ => F.val
  says := fun _ h => ∃ K : PySem.W.Frag, K.In h ∧ F.Says K
  of := fun _ _ e => ⟨_, He.frG_in, e⟩
  keeps := fun _ _ _ ⟨K, hK, c⟩ k => ⟨K, PySem.W.Frag.In.keeps hK k, c⟩
theorem Facts.obsG_eq {as : List Addr} {F : Facts} {g : Addr → Option Obj} {s : Shared} (h : ∀ a, g a = s.heap.get? a) : F.obsG as g = (F.hook as).obs s := by
  have e : g = s.heap.get? := funext h
  rw [e] <;> rfl
section
variable {F : Facts} {K : PySem.W.Frag}
theorem Facts.Says.d (c : F.Says K) : He.SaysD F.fa F.fn K := congrArg (fun z : AlF => z.2.1) c
theorem Facts.Says.m (c : F.Says K) : F.more K = true := congrArg (fun z : AlF => z.1) c
theorem Facts.Says.con (c : F.Says K) (i : Nat) {q : Str × PyData} (h : F.cs[i]? = some q := by rfl) (H : Hp) : Dp K H (.ref (He.ga K q.1)) q.2 :=
  conD_ok (List.all_eq_true.mp (He.ba c.m).1 q (List.mem_of_getElem? h)) H
theorem Facts.Says.cty (c : F.Says K) (i : Nat) {q : Str × PyData} (h : F.cs[i]? = some q := by rfl) (H : Hp) : tyV K "tuple" (.ref (He.ga K q.1)) H :=
  conD_ty (List.all_eq_true.mp (He.ba c.m).1 q (List.mem_of_getElem? h)) H
theorem Facts.Says.exd (c : F.Says K) (i : Nat) {e : ExD} (h : F.ex[i]? = some e := by rfl) : ExT K e :=
  ExD.of (List.all_eq_true.mp (He.ba (He.ba c.m).2).1 e (List.mem_of_getElem? h))
theorem Facts.Says.sup (c : F.Says K) (i : Nat) {d : SupD} (h : F.su[i]? = some d := by rfl) : ∃ cc cda fd, SupK K d cc cda fd := by
  have e : (F.su.map fun d => d.w K) = F.su.map SupD.val := congrArg (fun z : AlF => z.2.2) c
  have e2 : (F.su.map fun d => d.w K)[i]? = (F.su.map SupD.val)[i]? := by rw [e]
  rw [List.getElem?_map, List.getElem?_map, h] at e2
  exact SupD.of (Option.some.inj e2) (List.all_eq_true.mp (He.ba (He.ba c.m).2).2 d (List.mem_of_getElem? h))
end
end Vl
set_option Elab.async false
set_option linter.all false
set_option maxRecDepth 100000
set_option maxHeartbeats 4000000
namespace Vl
open PySem PySem.Spec PyProof.Rows L2
/-! ### a reading: an object with a list of numbers and its place -/
abbrev RC (K : PySem.W.Frag) : Addr := He.ga K "Reading"
def rdF (lp : Addr) (p : Nat) : List (Str × V) := [("numbers", .ref lp), ("at", .int (p : Nat))]
/-- what is left to be read of L is t -/
def Rs (K : PySem.W.Frag) (r lp : Addr) (L t : List Int) (H : Hp) : Prop := t <:+ L ∧ (∃ dx, H r = some (.ins (RC K) dx (rdF lp (L.length - t.length)))) ∧ H lp = some (.lst (vints L)) ∧ L.length ≤ 10000000
theorem a_sfldAug {K : PySem.W.Frag} {σ : L2.St} {H : Hp} {D : Ends} {ta tv : TE} {rd : V → V → Hp → VK → Prop} {f : Str} : sFldAug K ta tv rd f D σ H = ta σ H fun x H1 => ∃ a C dx fs v, x = .ref a ∧ H1 a = some (.ins C dx fs) ∧ Cls K C ∧ NoAttr K C f ∧ fs.lookup f = some v ∧
  tv σ H1 fun y H2 => rd v y H2 fun z H3 => ∃ dx' fs', H3 a = some (.ins C dx' fs') ∧ fs'.length < 1000 ∧ D.nx σ (upd H3 a (.ins C dx' (putF f z fs'))) := rfl
theorem a_aug {σ : L2.St} {H : Hp} {D : Ends} {i : Nat} {te : TE} {ti : TIp} : tAug i te ti D σ H = ∃ x, σ[i]? = some (some x) ∧ te σ H fun y H1 => ti x y H1 fun z H2 => D.nx (σ.set i (some z)) H2 := rfl
section
variable {K : PySem.W.Frag} {r lp : Addr} {L t : List Int} {H H' : Hp} {Q : VK}
theorem rdF_num {p : Nat} : (rdF lp p).lookup ("numbers" : Str) = some (.ref lp) := rfl
theorem rdF_at {p : Nat} : (rdF lp p).lookup ("at" : Str) = some (.int p) := rfl
theorem rdF_put {p q : Nat} : putF "at" (.int q) (rdF lp p) = rdF lp q := by
  unfold rdF putF
  rw [if_neg (by decide +kernel)]
  unfold putF
  rw [if_pos rfl]
theorem rdF_new : putF "at" (.int 0) (putF "numbers" (.ref lp) []) = rdF lp 0 := by
  show (if ("numbers" : Str) = "at" then _ else _) = _
  rw [if_neg (by decide +kernel)]
  rfl
theorem Rs.ne (R : Rs K r lp L t H) : lp ≠ r := fun e => by
  obtain ⟨_, ⟨dx, h⟩, h2, _⟩ := R
  rw [e, h] at h2
  cases h2
theorem Rs.keep (R : Rs K r lp L t H) (s : Same H H') : Rs K r lp L t H' := ⟨R.1, ⟨R.2.1.choose, s _ _ R.2.1.choose_spec⟩, s _ _ R.2.2.1, R.2.2.2⟩
theorem Rs.put {p : Addr} {o : HO} (R : Rs K r lp L t H) (n : p ≠ r) (n2 : p ≠ lp) : Rs K r lp L t (upd H p o) := ⟨R.1, ⟨R.2.1.choose, by
  rw [upd_ne (Ne.symm n)]
  exact R.2.1.choose_spec⟩, by
  rw [upd_ne (Ne.symm n2)]
  exact R.2.2.1, R.2.2.2⟩
theorem Rs.fnum (R : Rs K r lp L t H) (hc : Cls K (RC K)) (hn : NoAttr K (RC K) "numbers") (q : Q (.ref lp) H) : ∃ a C dx fs v, V.ref r = .ref a ∧ H a = some (.ins C dx fs) ∧ Cls K C ∧ NoAttr K C "numbers" ∧ fs.lookup ("numbers" : Str) = some v ∧ Q v H := by
  obtain ⟨_, ⟨dx, h⟩, _⟩ := R
  exact ⟨r, _, dx, _, _, rfl, h, hc, hn, rdF_num, q⟩
theorem Rs.fat (R : Rs K r lp L t H) (hc : Cls K (RC K)) (hn : NoAttr K (RC K) "at") (q : Q (.int (L.length - t.length : Nat)) H) : ∃ a C dx fs v, V.ref r = .ref a ∧ H a = some (.ins C dx fs) ∧ Cls K C ∧ NoAttr K C "at" ∧ fs.lookup ("at" : Str) = some v ∧ Q v H := by
  obtain ⟨_, ⟨dx, h⟩, _⟩ := R
  exact ⟨r, _, dx, _, _, rfl, h, hc, hn, rdF_at, q⟩
/-- the call of a method -/
theorem Rs.meth {m : Str} {P : Addr → Prop} (R : Rs K r lp L t H) (hm : ∀ p, (rdF lp p).lookup m = none) (q : P r) : ∃ a dx fs, V.ref r = .ref a ∧ H a = some (.ins (RC K) dx fs) ∧ fs.lookup m = none ∧ P a := by
  obtain ⟨_, ⟨dx, h⟩, _⟩ := R
  exact ⟨r, dx, _, rfl, h, hm _, q⟩
/-- the next number -/
theorem Rs.at_ {d : Int} (R : Rs K r lp L (d :: t) H) : atI (vints L) ((L.length - (d :: t).length : Nat) : Int) = some (.int d) := by
  obtain ⟨⟨u, rfl⟩, _⟩ := R
  refine atI_nat ?_
  have e : (u ++ d :: t).length - (d :: t).length = u.length := by
    rw [List.length_append]
    omega
  rw [e, vapp, List.getElem?_append_right (by rw [vlen]; exact Nat.le_refl _), vlen, Nat.sub_self]
  rfl
theorem Rs.lt {d : Int} (R : Rs K r lp L (d :: t) H) : L.length - (d :: t).length < L.length := by
  obtain ⟨⟨u, rfl⟩, _⟩ := R
  rw [List.length_append, List.length_cons]
  omega
/-- on by one -/
theorem Rs.stp {d : Int} {dx : Addr} (R : Rs K r lp L (d :: t) H) (h : H r = some (.ins (RC K) dx (rdF lp (L.length - (d :: t).length)))) :
    Rs K r lp L t (upd H r (.ins (RC K) dx (putF "at" (.int (((L.length - (d :: t).length : Nat) : Int) + 1)) (rdF lp (L.length - (d :: t).length))))) ∧
      Off (· = r) H (upd H r (.ins (RC K) dx (putF "at" (.int (((L.length - (d :: t).length : Nat) : Int) + 1)) (rdF lp (L.length - (d :: t).length))))) := by
  have ne := R.ne
  obtain ⟨⟨u, hu⟩, _, h2, h3⟩ := R
  have hz := congrArg List.length hu
  rw [List.length_append, List.length_cons] at hz
  rw [show ((L.length - (d :: t).length : Nat) : Int) + 1 = ((L.length - t.length : Nat) : Int) by
      rw [List.length_cons]
      omega, rdF_put]
  refine ⟨⟨⟨u ++ [d], by rw [List.append_assoc]; exact hu⟩, ⟨dx, upd_same⟩, ?_, h3⟩, fun b o n e => ?_⟩
  · rw [upd_ne ne]
    exact h2
  · rw [upd_ne n]
    exact e
/-- len(numbers) -/
theorem Rs.len {P : Int → Prop} (R : Rs K r lp L t H) (q : P L.length) : ∃ p ys, [V.ref lp] = [V.ref p] ∧ (SqL K H p ys ∨ SqT K H p ys) ∧ P (ys.length : Int) := ⟨lp, _, rfl, .inl (.of R.2.2.1), by
  rw [vlen]
  exact q⟩
end
/-! ### readers' promises -/
def spDg (K : PySem.W.Frag) : Sp := Sp2 fun a b H Q _ => ∃ r lp L t n, ∃ most : Nat, a = .ref r ∧ b = .int most ∧ Rs K r lp L (cntd n ++ t) H ∧ (cntd n).length ≤ most ∧ most ≤ 10000 ∧ ∀ H', Off (· = r) H H' → Rs K r lp L t H' → Q (.int n) H'
def spCt (K : PySem.W.Frag) : Sp := Sp3 fun a b c H Q _ => ∃ r lp L t n, ∃ lo hi : Int, a = .ref r ∧ b = .int lo ∧ c = .int hi ∧ Rs K r lp L (cntd n ++ t) H ∧ lo ≤ (n : Int) ∧ (n : Int) ≤ hi ∧ n ≤ 2000000000 ∧ ∀ H', Off (· = r) H H' → Rs K r lp L t H' → Q (.int n) H'
def spR {α : Type} (K : PySem.W.Frag) (D : α → PyData) (ok : α → Prop) (e : α → List Int) : Sp := Sp1 fun a H Q _ => ∃ r lp L t x, a = .ref r ∧ Rs K r lp L (e x ++ t) H ∧ ok x ∧ ∀ v H', Off (· = r) H H' → Rs K r lp L t H' → Dp K H' v (D x) → Q v H'
/-- with a bound -/
def spR2 {α : Type} (K : PySem.W.Frag) (D : α → PyData) (ok : Int → α → Prop) (e : α → List Int) : Sp := Sp2 fun a b H Q _ => ∃ r lp L t x, ∃ m : Int, a = .ref r ∧ b = .int m ∧ Rs K r lp L (e x ++ t) H ∧ ok m x ∧ ∀ v H', Off (· = r) H H' → Rs K r lp L t H' → Dp K H' v (D x) → Q v H'
section
variable {α : Type} {K : PySem.W.Frag} {D : α → PyData} {ok : α → Prop} {e : α → List Int} {r lp : Addr} {L t : List Int} {H : Hp} {Q : VK} {E : XK}
theorem ctcall {lo hi : Int} (n : Nat) (R : Rs K r lp L (cntd n ++ t) H) (h1 : lo ≤ (n : Int)) (h2 : (n : Int) ≤ hi) (h3 : n ≤ 2000000000) (q : ∀ H', Off (· = r) H H' → Rs K r lp L t H' → Q (.int n) H') : spCt K [.ref r, .int lo, .int hi] H Q E :=
  ⟨_, _, _, rfl, r, lp, L, t, n, lo, hi, rfl, rfl, rfl, R, h1, h2, h3, q⟩
theorem rcall (x : α) (R : Rs K r lp L (e x ++ t) H) (ho : ok x) (q : ∀ v H', Off (· = r) H H' → Rs K r lp L t H' → Dp K H' v (D x) → Q v H') : spR K D ok e [.ref r] H Q E :=
  ⟨_, rfl, r, lp, L, t, x, rfl, R, ho, q⟩
theorem rcall2 {ok : Int → α → Prop} {m : Int} (x : α) (R : Rs K r lp L (e x ++ t) H) (ho : ok m x) (q : ∀ v H', Off (· = r) H H' → Rs K r lp L t H' → Dp K H' v (D x) → Q v H') : spR2 K D ok e [.ref r, .int m] H Q E :=
  ⟨_, _, rfl, r, lp, L, t, x, m, rfl, rfl, R, ho, q⟩
end
/-- data stay while only a reading changes -/
theorem Off.tup {K : PySem.W.Frag} {r lp : Addr} {L t : List Int} {H H' : Hp} (R : Rs K r lp L t H) (o : Off (· = r) H H') : TupKeep H H' := by
  obtain ⟨_, ⟨dx, h⟩, _⟩ := R
  refine ⟨fun b xs e => o b _ (fun c => ?_) e, fun b x u e => o b _ (fun c => ?_) e⟩
  · rw [c, h] at e
    cases e
  · rw [c, h] at e
    cases e
end Vl
namespace Vl
open PySem PySem.Spec PyProof.Rows L2
section
variable {α : Type} {K : PySem.W.Frag} {σ : L2.St} {g : TG} {te : TE} {vs : List Nat} {r lp : Addr} {L t : List Int} {H : Hp} {Q : VK}
/-- [read(reading) for _ in range(n)] -/
theorem lcR {D : α → PyData} {e : α → List Int} (ds : List α) (R0 : Rs K r lp L (ds.flatMap e ++ t) H) (hl : ds.length ≤ 1000000) (hn : ∀ x, noL (D x) = true) {lo : Int} {n : Nat} (hD : n = ds.length)
    (step : ∀ (N : VK) H1 x u (i : Int), x ∈ ds → Off (· = r) H H1 → Rs K r lp L (e x ++ u) H1 → (∀ v H2, Off (· = r) H1 H2 → Rs K r lp L u H2 → Dp K H2 v (D x) → N v H2) → g (.int i) (wipe σ vs) H1 fun σ2 H2 => wipe σ2 vs = wipe σ vs ∧ te σ2 H2 N)
    (hd : ∀ D' H1 ys, H D' = none → Off (· = r) H H1 → Rs K r lp L t H1 → H1 D' = some (.lst ys) → DpAll K H1 ys (ds.map D) → Q (.ref D') H1) : LcR (Itr lo n) g tYes te vs σ H Q := by
  have hr : H r ≠ none := fun h => by
    obtain ⟨dx, q⟩ := R0.2.1
    rw [h] at q
    cases q
  have hlp : H lp ≠ none := fun h => by
    have q := R0.2.2.1
    rw [h] at q
    cases q
  refine lcNg (· = r) (fun _ H1 v d => Dp K H1 v (D d)) ds (fun i H1 => Rs K r lp L ((ds.drop i).flatMap e ++ t) H1) hl (fun b h => by rw [h]; exact hr) (fun i H1 D x n R => R.put (fun h => hr (by rw [← h]; exact n)) (fun h => hlp (by rw [← h]; exact n))) R0
    (fun D' i H1 H2 v d n R ⟨acc, ha⟩ ho h => ?_) hD (fun D' i d H1 hd n hacc o R N k => ?_) (fun D' H1 ys n o h a2 R => ?_)
  · refine TupKeep.dp ⟨fun b xs q => ho b _ (fun c => ?_) (fun c => ?_) q, fun b x u q => ho b _ (fun c => ?_) (fun c => ?_) q⟩ (hn d) h
    · obtain ⟨dx, q2⟩ := R.2.1
      rw [c, q2] at q
      cases q
    · rw [c, ha] at q
      cases q
    · obtain ⟨dx, q2⟩ := R.2.1
      rw [c, q2] at q
      cases q
    · rw [c, ha] at q
      cases q
  · have hlt := (List.getElem?_eq_some_iff.mp hd).1
    have he : ds.drop i = d :: ds.drop (i + 1) := by
      rw [List.drop_eq_getElem_cons hlt, (List.getElem?_eq_some_iff.mp hd).2]
    rw [he, List.flatMap_cons, List.append_assoc] at R
    exact step N H1 d _ _ (List.mem_of_getElem? hd) o R fun v H2 o2 R2 hv => k v H2 o2 hv R2
  · rw [List.drop_length] at R
    exact hd D' H1 ys n o R h a2.dp
end
end Vl
namespace Vl
open PySem PySem.Spec PyProof.Rows L2
theorem Rs.m {K : PySem.W.Frag} {r lp : Addr} {L t : List Int} {H : Hp} {m : Str} {P : Prop} (R : Rs K r lp L t H) (q : P) (hm : ∀ p, (rdF lp p).lookup m = none := by intro _; rfl) : ∃ a dx fs, V.ref r = .ref a ∧ H a = some (.ins (RC K) dx fs) ∧ fs.lookup m = none ∧ P := by
  obtain ⟨_, ⟨dx, h⟩, _⟩ := R
  exact ⟨r, dx, _, rfl, h, hm _, q⟩
/-- a new tuple of data -/
theorem dp_tup {K : PySem.W.Frag} {H : Hp} {p : Addr} {xs : List V} {ds : List PyData} (n : H p = none) (h : DpAll K H xs ds) : Dp K (upd H p (.tup xs)) (.ref p) (.tuple ds) :=
  .tup (.of upd_same) ((SeqKeep.of (Same.new n)).dpAll h)
theorem Rs.new {K : PySem.W.Frag} {r lp : Addr} {L t : List Int} {H : Hp} {p : Addr} {o : HO} (R : Rs K r lp L t H) (n : H p = none) : Rs K r lp L t (upd H p o) := R.keep (Same.new n)
theorem Off.new {S : Addr → Prop} {H H1 : Hp} {p : Addr} {o : HO} (s : Off S H H1) (n : H1 p = none) : Off S H (upd H1 p o) := fun b u nb e => by
  have := s b u nb e
  by_cases c : b = p
  · rw [c, n] at this
    cases this
  · rw [upd_ne c]
    exact this
end Vl
namespace Vl
open PySem PySem.Spec PyProof.Rows L2
theorem joinT (ks : List Nat) : Txt.join ("" : Str) (ks.map fun k => (⟨#[sgAt k]⟩ : Str)) = ofIx ks := by
  rw [eq_of_beq (join_plain_closes _ _)]
  have h := join_ones (ks.map sgAt)
  rw [List.map_map] at h
  exact h
theorem a_m1 {r : V → List V → Hp → VK → Prop} {to te : TE} {σ : L2.St} {H : Hp} {Q : VK} : tM1 r to te σ H Q = to σ H fun x H1 => (∃ a, x = .str a) ∧ te σ H1 fun y H2 => r x [y] H2 Q := rfl
theorem strs_len : ∀ ks : List Nat, ((ks.map fun k => (⟨#[sgAt k]⟩ : Str)).map fun x => x.length).sum = ks.length
  | [] => rfl
  | k :: ks => by
    rw [List.map_cons, List.map_cons, List.sum_cons, strs_len ks, List.length_cons]
    show 1 + ks.length = _
    omega
/-- the items of a list of signs -/
theorem sqL_signs {K : PySem.W.Frag} {H : Hp} {D : Addr} {ys : List V} {ks : List Nat} (h : H D = some (.lst ys)) (hA : DpAll K H ys (ks.map fun k => PyData.str ⟨#[sgAt k]⟩)) : SqL K H D ((ks.map fun k => (⟨#[sgAt k]⟩ : Str)).map V.str) := by
  have h2 : DpAll K H ys ((ks.map fun k => (⟨#[sgAt k]⟩ : Str)).map PyData.str) := by
    rw [List.map_map]
    exact hA
  rw [← strs_of h2]
  exact .of h
end Vl
namespace Vl
open PySem PySem.Spec PyProof.Rows L2
theorem chars_len : charsS.length = 94 := by decide +kernel
theorem chars_at : ∀ k : Nat, k < 94 → atI charsS.cps.toList (k : Int) = some (sgAt k) := by decide +kernel
theorem chars_at95 : ∀ k : Nat, k < 95 → atI (ofIx (List.range 95)).cps.toList (k : Int) = some (sgAt k) := by decide +kernel
theorem ixc {k : Nat} {H : Hp} {Q : VK} (h : k < 94) (q : Q (.str ⟨#[sgAt k]⟩) H) : rIxS (.str charsS) (.int (k : Nat)) H Q :=
  ⟨charsS, _, _, rfl, rfl, by rw [chars_len]; decide, chars_at k h, q⟩
end Vl
namespace Vl
open PySem PySem.Spec PyProof.Rows L2
def DAt.ir : DAt → Bool
  | .ref _ => true
  | _ => false
theorem ir_yes {x : DAt} (h : Str.ofString x.kd ∈ ([("object" : Str), "promise"] : List Str)) : x.ir = true := by
  cases x with
  | ref r => rfl
  | non => exact absurd h (by decide +kernel)
  | bl b => exact absurd h (show Str.ofString "bool" ∉ _ by decide +kernel)
  | int b => exact absurd h (show Str.ofString "int" ∉ _ by decide +kernel)
  | txt b => exact absurd h (show Str.ofString "text" ∉ _ by decide +kernel)
theorem ir_no {x : DAt} (h : Str.ofString x.kd ∉ ([("object" : Str), "promise"] : List Str)) : x.ir = false := by
  cases x with
  | ref r =>
    refine absurd ?_ h
    show Str.ofString (if r.p then "promise" else "object") ∈ _
    cases r.p <;> decide +kernel
  | _ => rfl
end Vl
namespace Vl
open PySem PySem.Spec PyProof.Rows L2
theorem refs_yes {x : DAt} (h : x.ir = true) : ∃ r, x = .ref r ∧ x.refs = [r] := by
  cases x with
  | ref r => exact ⟨r, rfl, rfl⟩
  | _ => cases h
theorem refs_no {x : DAt} (h : ¬ x.ir = true) : x.refs = [] := by
  cases x with
  | ref r => exact absurd rfl h
  | _ => rfl
theorem refs_layAll : ∀ l : List DRef, PyData.canLayAll0 (l.map DRef.d) = true ∧ PyData.depthAll (l.map DRef.d) ≤ 1
  | [] => ⟨rfl, by simp [PyData.depthAll]⟩
  | r :: l => by
    obtain ⟨h1, h2⟩ := refs_layAll l
    obtain ⟨g1, g2⟩ := at_lay (.ref r)
    have g1 : r.d.canLay0 = true := g1
    have g2 : r.d.depth ≤ 1 := g2
    refine ⟨by simp [PyData.canLayAll0, g1, h1], ?_⟩
    simp only [List.map_cons, PyData.depthAll]
    omega
theorem shaped_refs (l : List DRef) : SeqAt.shaped (.list (l.map DRef.d)) = true := by
  obtain ⟨h1, h2⟩ := refs_layAll l
  refine shaped_of (by simp [PyData.canLay0, h1]) ?_
  simp only [PyData.depth]
  omega
theorem any_refs (r : DRef) (l : List DRef) : ((l.map DRef.d).any fun z => PyData.eqv z r.d) = decide (r ∈ l) := by
  induction l with
  | nil => rfl
  | cons s l ih =>
    rw [List.map_cons, List.any_cons, ih, ref_eqv, ← Bool.decide_or]
    exact decide_eq_decide.mpr (by rw [List.mem_cons]; exact ⟨fun h => h.imp Eq.symm id, fun h => h.imp Eq.symm id⟩)
/-- reference not in found -/
theorem nin_refs {K : PySem.W.Frag} {H : Hp} {Q : VK} {p : Addr} {v : V} {ys : List V} {r : DRef} {l : List DRef} (hv : Dp K H v r.d) (hp : H p = some (.lst ys)) (hA : DpAll K H ys (l.map DRef.d)) (q : Q (.bl (!decide (r ∈ l))) H) : rNotInD K v (.ref p) H Q :=
  ⟨_, _, hv, by rw [dLst]; exact ⟨p, ys, rfl, .of hp, hA⟩, ref_shaped r, shaped_refs l, by
    rw [any_refs]
    exact q⟩
/-- changes of one list leave the rest -/
theorem tup_upd {H : Hp} {p : Addr} {ys zs : List V} (h : H p = some (.lst ys)) : TupKeep H (upd H p (.lst zs)) := ⟨fun b xs e => by
  rw [upd_ne (fun c => by rw [c, h] at e; cases e)]
  exact e, fun b o u e => by
  rw [upd_ne (fun c => by rw [c, h] at e; cases e)]
  exact e⟩
theorem refs_len (vs : List DVa) (h : vs.length ≤ 4) (ho : ∀ x ∈ vs, x.ok) : (vs.flatMap DVa.refs).length ≤ 32 := by
  have : ∀ l : List DVa, (∀ x ∈ l, x.ok) → (l.flatMap DVa.refs).length ≤ 8 * l.length := by
    intro l
    induction l with
    | nil => intro _; exact Nat.le_refl _
    | cons x l ih =>
      intro h
      have h1 := ih fun y hy => h y (List.mem_cons_of_mem _ hy)
      have h2 : x.refs.length ≤ x.ats.length := by
        unfold DVa.refs
        have : ∀ as : List DAt, (as.flatMap DAt.refs).length ≤ as.length := by
          intro as
          induction as with
          | nil => exact Nat.le_refl _
          | cons a as ih =>
            rw [List.flatMap_cons, List.length_append, List.length_cons]
            have : a.refs.length ≤ 1 := by cases a <;> simp [DAt.refs]
            omega
        exact this _
      have h3 : x.ats.length ≤ 8 := by
        have hx := h x List.mem_cons_self
        cases x with
        | one a => exact (by decide : 1 ≤ 8)
        | lst as => exact hx.1
      rw [List.flatMap_cons, List.length_append, List.length_cons]
      omega
  have := this vs ho
  omega
theorem addR_len (l f : List DRef) : (l.foldl addR f).length ≤ f.length + l.length := by
  induction l generalizing f with
  | nil => exact Nat.le_refl _
  | cons r l ih =>
    rw [List.foldl_cons, List.length_cons]
    have := ih (addR f r)
    have h2 : (addR f r).length ≤ f.length + 1 := by
      unfold addR
      split
      · omega
      · rw [List.length_append, List.length_singleton]
        omega
    omega
end Vl
namespace Vl
theorem addR_in {r : DRef} {l : List DRef} (h : r ∈ l) : addR l r = l := if_pos h
theorem addR_out {r : DRef} {l : List DRef} (h : r ∉ l) : addR l r = l ++ [r] := if_neg h
end Vl
namespace Vl
open PySem PySem.Spec PyProof.Rows L2
theorem ofIx_app (l m : List Nat) : ofIx l ++ ofIx m = ofIx (l ++ m) := by
  show (⟨(l.map sgAt).toArray ++ (m.map sgAt).toArray⟩ : Str) = ⟨((l ++ m).map sgAt).toArray⟩
  rw [List.map_append, List.append_toArray]
theorem ofIx_snoc (l : List Nat) (k : Nat) : ofIx l ++ (⟨#[sgAt k]⟩ : Str) = ofIx (l ++ [k]) := ofIx_app l [k]
theorem let_mem : ∀ k, k < 90 → 64 ≤ k → sgAt k ∈ ("abcdefghijklmnopqrstuvwxyz" : Str).cps.toList := by decide +kernel
end Vl
namespace Vl
theorem rgb {n : Nat} (h : n ≤ 20000000) : -(2 ^ 62 : Int) ≤ (n : Int) ∧ (n : Int) < 2 ^ 62 := ⟨Int.le_trans (by decide : -(2 ^ 62 : Int) ≤ 0) (by omega), Int.lt_of_le_of_lt (by omega : (n : Int) ≤ 20000000) (by decide)⟩
end Vl
namespace Vl
open PySem PySem.Spec PyProof.Rows L2
theorem noLs_cons {d : PyData} {ds : List PyData} (h : noL d = true) (h2 : noLs ds = true) : noLs (d :: ds) = true := by
  show (noL d && noLs ds) = true
  rw [h, h2]
  rfl
theorem nl_tup {ds : List PyData} (h : noLs ds = true) : noL (.tuple ds) = true := h
theorem nl_vas (l : List DVa) : noL (.tuple (l.map DVa.d)) = true := nl_tup (noLs_of nl_va l)
theorem nl_wts (l : List DWt) : noL (.tuple (l.map DWt.d)) = true := nl_tup (noLs_of nl_wt l)
theorem nl_sds (l : List DSd) : noL (.tuple (l.map DSd.d)) = true := nl_tup (noLs_of nl_sd l)
theorem nl_refs (l : List DRef) : noL (.tuple (l.map DRef.d)) = true := nl_tup (noLs_of nl_ref l)
theorem nl_msg (m : DMsg) : noL m.d = true := nl_tup (noLs_cons rfl (noLs_cons rfl (noLs_cons rfl (noLs_cons rfl (noLs_cons (nl_vas _) (noLs_cons (nl_sds _) rfl))))))
theorem nl_tg (m : DTg) : noL m.d = true := by cases m <;> rfl
theorem nl_co (c : DCo) : noL c.d = true := by
  cases c with
  | message m t w q sh => exact nl_tup (noLs_cons rfl (noLs_cons (nl_msg _) (noLs_cons (nl_tg _) (noLs_cons rfl (noLs_cons rfl (noLs_cons (nl_wts _) rfl))))))
  | fulfill r n x sh => exact nl_tup (noLs_cons rfl (noLs_cons rfl (noLs_cons (nl_va _) (noLs_cons (nl_wts _) rfl))))
  | transfer x sh => exact nl_tup (noLs_cons rfl (noLs_cons (nl_va _) (noLs_cons (nl_wts _) rfl)))
  | brk r n ks => rfl
  | subscribe n w => rfl
  | release r w => rfl
  | relans n w => rfl
theorem nl_pk (p : DPk) : noL p.d = true := nl_tup (noLs_cons rfl (noLs_cons rfl (noLs_cons rfl (noLs_cons (nl_co _) rfl))))
def DCo.kd : DCo → String
  | .message _ _ _ _ _ => "message"
  | .fulfill r _ _ _ => if r then "resolved" else "fulfill"
  | .brk r _ _ => if r then "resolved_broken" else "break"
  | .subscribe _ _ => "subscribe"
  | .release _ _ => "release"
  | .relans _ _ => "release_answer"
  | .transfer _ _ => "transfer"
def DEn.kd : DEn → String
  | .start _ _ => "start"
  | .create _ _ => "create"
  | .send _ _ _ => "send"
  | .transfer _ _ => "transfer"
  | .take => "take"
  | .turn => "turn"
  | .collect => "collect"
  | .pin _ => "pin"
  | .release _ => "release"
  | .receive _ => "receive"
  | .drop _ => "drop"
end Vl
namespace Vl
open PySem PySem.Spec PyProof.Rows L2
theorem Same.mk {H H' : Hp} {x dx : Addr} {o1 o2 : HO} (nx : H x = none) (nd : H dx = none) (h : ∀ b, b ≠ x → H' b = upd (upd H dx o1) x o2 b) : Same H H' := fun b o e => by
  have e1 : b ≠ x := fun c => by
    rw [c, nx] at e
    cases e
  have e2 : b ≠ dx := fun c => by
    rw [c, nd] at e
    cases e
  rw [h b e1, upd_ne e1, upd_ne e2]
  exact e
theorem Same.off {H H1 H2 : Hp} {x : Addr} (s : Same H H1) (nx : H x = none) (o : Off (· = x) H1 H2) : Same H H2 := fun b u e => o b u (fun c => by
  rw [c, nx] at e
  cases e) (s b u e)
theorem co_kind (c : DCo) : ∃ j : Nat, c.k = (j : Int) ∧ j ≤ 8 ∧ conts[j]? = some (Str.ofString c.kd) := by
  cases c with
  | message m t wt q sh => exact ⟨0, rfl, by decide, rfl⟩
  | fulfill r n x sh =>
    cases r
    · exact ⟨1, rfl, by decide, rfl⟩
    · exact ⟨4, rfl, by decide, rfl⟩
  | brk r n ks =>
    cases r
    · exact ⟨2, rfl, by decide, rfl⟩
    · exact ⟨5, rfl, by decide, rfl⟩
  | subscribe n wt => exact ⟨3, rfl, by decide, rfl⟩
  | release r wt => exact ⟨6, rfl, by decide, rfl⟩
  | relans n wt => exact ⟨7, rfl, by decide, rfl⟩
  | transfer x sh => exact ⟨8, rfl, by decide, rfl⟩
theorem en_kind (c : DEn) : ∃ j : Nat, c.k = (j : Int) ∧ j ≤ 10 ∧ kinds[j]? = some (Str.ofString c.kd) := by
  cases c with
  | start v ks => exact ⟨0, rfl, by decide, rfl⟩
  | create n vs => exact ⟨1, rfl, by decide, rfl⟩
  | send r n vs => exact ⟨2, rfl, by decide, rfl⟩
  | transfer v x => exact ⟨3, rfl, by decide, rfl⟩
  | take => exact ⟨4, rfl, by decide, rfl⟩
  | turn => exact ⟨5, rfl, by decide, rfl⟩
  | collect => exact ⟨6, rfl, by decide, rfl⟩
  | pin r => exact ⟨7, rfl, by decide, rfl⟩
  | release r => exact ⟨8, rfl, by decide, rfl⟩
  | receive p => exact ⟨9, rfl, by decide, rfl⟩
  | drop rs => exact ⟨10, rfl, by decide, rfl⟩
theorem ixc95 {k : Nat} {H : Hp} {Q : VK} (h : k < 95) (q : Q (.str ⟨#[sgAt k]⟩) H) : rIxS (.str (ofIx (List.range 95))) (.int (k : Nat)) H Q :=
  ⟨_, _, _, rfl, rfl, by rw [ofIx_len]; decide, chars_at95 k h, q⟩
end Vl
namespace Vl
open PySem PySem.Spec PyProof.Rows L2
theorem cut1 (x : V) (xs : List V) : cutV (x :: xs) (some 1) none = xs := by
  unfold cutV
  rw [show HT.sIx (x :: xs).length 0 (some 1) = 1 by
    rw [show (1 : Int) = ((1 : Nat) : Int) from rfl, HT.sIx_nat, List.length_cons]
    omega, HT.sIx_none, List.drop_succ_cons, List.drop_zero, List.length_cons, Nat.add_sub_cancel, List.take_length]
end Vl
set_option Elab.async false
set_option linter.all false
set_option maxRecDepth 100000
set_option maxHeartbeats 4000000
namespace Vl
open PySem PySem.Spec PyProof.Rows L2
/-! ### how long the numbers of an entry may be -/
theorem flat_max {α β : Type} (e : α → List β) (B : Nat) : ∀ l : List α, (∀ x ∈ l, (e x).length ≤ B) → (l.flatMap e).length ≤ B * l.length
  | [], _ => Nat.zero_le _
  | x :: l, h => by
    have h1 := flat_max e B l fun y hy => h y (List.mem_cons_of_mem _ hy)
    have h2 := h x List.mem_cons_self
    rw [List.flatMap_cons, List.length_append, List.length_cons, Nat.mul_succ]
    omega
theorem ref_len {r : DRef} (h : r.ok) : r.e.length ≤ 11 := by
  obtain ⟨h1, h2, h3, h4⟩ := h
  have a := cnt5 (n := r.v) (by omega)
  have b := cnt5 (n := r.n) (by omega)
  rw [DRef.e, List.length_cons, List.length_append]
  omega
theorem sd_len {r : DSd} (h : r.ok) : r.e.length ≤ 10 := by
  obtain ⟨h1, h2, h3, h4⟩ := h
  have a := cnt5 (n := r.v) (by omega)
  have b := cnt5 (n := r.n) (by omega)
  rw [DSd.e, List.length_append]
  omega
theorem wt_len {w : DWt} (h : w.ok) : w.en.length ≤ 2005 := by
  obtain ⟨h1, h2, h3, h4⟩ := h
  have b := cnt5 (n := w.e) (by omega)
  rw [DWt.en, List.length_append]
  omega
theorem es_len {ks : List Nat} {m : Nat} (h : ks.length ≤ m) (hm : m ≤ 1000000) : (eS ks).length ≤ 5 + m := by
  have a := cnt5 (n := ks.length) (by omega)
  rw [eS, List.length_append, List.length_map]
  omega
theorem row_len {α : Type} {e : α → List Int} {l : List α} {B m : Nat} (h : ∀ x ∈ l, (e x).length ≤ B) (hl : l.length ≤ m) (hm : m ≤ 1000000) : (rowd e l).length ≤ 5 + B * m := by
  have a := cnt5 (n := l.length) (by omega)
  have b := flat_max e B l h
  have c : B * l.length ≤ B * m := Nat.mul_le_mul_left _ hl
  rw [rowd, List.length_append]
  omega
theorem at_len {a : DAt} (h : a.ok) : a.e.length ≤ 26 := by
  cases a with
  | non => exact (by decide : 1 ≤ 26)
  | bl b => exact (by decide : 1 ≤ 26)
  | int i =>
    obtain ⟨h1, h2⟩ := h
    have hz : zig i ≤ 2000000000 := by
      unfold zig
      split <;> omega
    have := cnt5 hz
    rw [DAt.e, List.length_cons]
    omega
  | txt ks =>
    have := es_len h.2 (by decide)
    rw [DAt.e, List.length_cons]
    omega
  | ref r =>
    have := ref_len h
    rw [DAt.e, List.length_cons]
    omega
theorem va_len {x : DVa} (h : x.ok) : x.e.length ≤ 214 := by
  cases x with
  | one a =>
    have := at_len h
    rw [DVa.e, List.length_cons]
    omega
  | lst as =>
    have := row_len (e := DAt.e) (B := 26) (fun x hx => at_len (h.2 x hx)) h.1 (by decide)
    rw [DVa.e, List.length_cons]
    omega
theorem msg_len {m : DMsg} (h : m.ok) : m.e.length ≤ 3000 := by
  obtain ⟨h1, h2, ⟨h3, h3b⟩, h4, h5, h6⟩ := h
  have a1 := sd_len h1
  have a2 := ref_len h2
  have a3 := cnt5 (n := m.place) (by omega)
  have a4 := es_len h4.2.2 (by decide)
  have a5 := row_len (e := DVa.e) (B := 214) (fun x hx => va_len (h5.2 x hx)) h5.1 (by decide)
  have a6 := row_len (e := DSd.e) (B := 10) (fun x hx => sd_len (h6.2 x hx)) h6.1 (by decide)
  simp only [DMsg.e, List.length_append]
  omega
theorem tg_len {t : DTg} (h : t.ok) : t.e.length ≤ 11 := by
  cases t with
  | obj n =>
    have := cnt5 (n := n) (by have := h.2; omega)
    rw [DTg.e, List.length_cons]
    omega
  | prom n =>
    have := cnt5 (n := n) (by have := h.2; omega)
    rw [DTg.e, List.length_cons]
    omega
  | ans v q =>
    have a := cnt5 (n := v) (by have := h.1.2; omega)
    have b := cnt5 (n := q) (by have := h.2.2; omega)
    rw [DTg.e, List.length_cons, List.length_append]
    omega
theorem sh_len {vs : List DVa} {sh : List DWt} (h : Sh vs sh) (hn : vs.length ≤ 4) (ho : ∀ x ∈ vs, x.ok) : (rowd DWt.en sh).length ≤ 70000 := by
  have h1 := refs_len vs hn ho
  have h2 := addR_len (vs.flatMap DVa.refs) []
  have h3 : sh.length ≤ 32 := by
    rw [h.1]
    unfold dist
    simp only [List.length_nil] at h2
    omega
  have := row_len (e := DWt.en) (B := 2005) (fun x hx => wt_len (h.2 x hx)) h3 (by decide)
  omega
theorem co_len {c : DCo} (h : c.ok) : c.e.length ≤ 80000 := by
  have one : ∀ {x : DVa}, x.ok → ∀ y ∈ [x], y.ok := fun hx y hy => by
    rw [List.mem_singleton.mp hy]
    exact hx
  cases c with
  | message m t w q sh =>
    obtain ⟨h1, h2, h3, h4, h5⟩ := h
    have a1 := msg_len h1
    have a2 := tg_len h2
    have a3 := wt_len h3
    have a4 := cnt5 (n := q) (by have := h4.2; omega)
    have a5 := sh_len h5 h1.2.2.2.2.1.1 h1.2.2.2.2.1.2
    simp only [DCo.e, List.length_append]
    omega
  | fulfill r n x sh =>
    obtain ⟨h1, h2, h3⟩ := h
    have a1 := cnt5 (n := n) (by have := h1.2; omega)
    have a2 := va_len h2
    have a3 := sh_len h3 (show 1 ≤ 4 by decide) (one h2)
    simp only [DCo.e, List.length_append]
    omega
  | brk r n ks =>
    obtain ⟨h1, h2, h3⟩ := h
    have a1 := cnt5 (n := n) (by have := h1.2; omega)
    have a2 := es_len h3 (by decide)
    simp only [DCo.e, List.length_append]
    omega
  | subscribe n w =>
    obtain ⟨h1, h2⟩ := h
    have a1 := cnt5 (n := n) (by have := h1.2; omega)
    have a2 := wt_len h2
    simp only [DCo.e, List.length_append]
    omega
  | release r w =>
    obtain ⟨h1, h2⟩ := h
    have a1 := ref_len h1
    have a2 := wt_len h2
    simp only [DCo.e, List.length_append]
    omega
  | relans n w =>
    obtain ⟨h1, h2⟩ := h
    have a1 := cnt5 (n := n) (by have := h1.2; omega)
    have a2 := wt_len h2
    simp only [DCo.e, List.length_append]
    omega
  | transfer x sh =>
    obtain ⟨h2, h3⟩ := h
    have a2 := va_len h2
    have a3 := sh_len h3 (show 1 ≤ 4 by decide) (one h2)
    simp only [DCo.e, List.length_append]
    omega
theorem pk_len {p : DPk} (h : p.ok) : p.e.length ≤ 81000 := by
  obtain ⟨h1, h2, h3, h4⟩ := h
  have a1 := cnt5 (n := p.s) (by have := h1.2; omega)
  have a2 := cnt5 (n := p.r) (by have := h2.2; omega)
  have a3 := cnt5 (n := p.n) (by have := h3.2; omega)
  have a4 := co_len h4
  simp only [DPk.e, List.length_append, List.length_cons]
  omega
/-- few references -/
def DEn.sm : DEn → Prop
  | .drop rs => rs.length ≤ 1000
  | _ => True
theorem en_len {c : DEn} (h : c.ok) (hs : c.sm) : c.e.length ≤ 90000 := by
  have hc : c.c.length ≤ 85000 := by
    cases c with
    | start v ks =>
      obtain ⟨h1, h2, h3⟩ := h
      have a1 := cnt5 (n := v) (by have := h1.2; omega)
      have a2 := es_len h3 (by decide)
      simp only [DEn.c, List.length_append]
      omega
    | create nm vs =>
      obtain ⟨h1, h2, h3⟩ := h
      have a1 := es_len h1.2.2 (by decide)
      have a2 := row_len (e := DVa.e) (B := 214) (fun x hx => va_len (h3 x hx)) h2 (by decide)
      simp only [DEn.c, List.length_append]
      omega
    | send r nm vs =>
      obtain ⟨h0, h1, h2, h3⟩ := h
      have a0 := ref_len h0
      have a1 := es_len h1.2.2 (by decide)
      have a2 := row_len (e := DVa.e) (B := 214) (fun x hx => va_len (h3 x hx)) h2 (by decide)
      simp only [DEn.c, List.length_append]
      omega
    | transfer v x =>
      obtain ⟨h1, h2⟩ := h
      have a1 := cnt5 (n := v) (by have := h1.2; omega)
      have a2 := va_len h2
      simp only [DEn.c, List.length_append]
      omega
    | take => exact (by decide : 0 ≤ 85000)
    | turn => exact (by decide : 0 ≤ 85000)
    | collect => exact (by decide : 0 ≤ 85000)
    | pin r =>
      have a0 := ref_len h
      simp only [DEn.c]
      omega
    | release r =>
      have a0 := ref_len h
      simp only [DEn.c]
      omega
    | receive p =>
      have a0 := pk_len h
      simp only [DEn.c]
      omega
    | drop rs =>
      have a0 := row_len (e := DRef.e) (B := 11) (fun x hx => ref_len (h.2 x hx)) hs (by decide)
      simp only [DEn.c]
      omega
  have a := cnt5 (n := (c.k :: c.c).length) (by rw [List.length_cons]; omega)
  rw [DEn.e, List.length_append]
  rw [List.length_cons] at a ⊢
  omega
end Vl
set_option Elab.async false
set_option linter.all false
set_option maxRecDepth 100000
set_option maxHeartbeats 4000000
namespace Vl
open PySem PySem.Spec PyProof.Rows L2
/-! ### the numbers of an entry are small -/
def B8 (l : List Int) : Prop := ∀ i ∈ l, 0 ≤ i ∧ i ≤ 255
theorem B8.app {a b : List Int} (h : B8 a) (k : B8 b) : B8 (a ++ b) := fun i hi => (List.mem_append.mp hi).elim (h i) (k i)
theorem B8.cons {x : Int} {a : List Int} (h : 0 ≤ x ∧ x ≤ 255) (k : B8 a) : B8 (x :: a) := fun i hi => (List.mem_cons.mp hi).elim (fun e => e ▸ h) (k i)
theorem B8.nil : B8 [] := fun i hi => by cases hi
theorem B8.flat {α : Type} {e : α → List Int} {l : List α} (h : ∀ x ∈ l, B8 (e x)) : B8 (l.flatMap e) := fun i hi => by
  obtain ⟨x, hx, hxi⟩ := List.mem_flatMap.mp hi
  exact h x hx i hxi
theorem cnt_b8 (n : Nat) : B8 (cntd n) := by
  induction n using Nat.strongRecOn with
  | ind n ih =>
    rw [cntd]
    split
    · exact .cons (by omega) .nil
    · exact .cons (by omega) (ih _ (by omega))
theorem row_b8 {α : Type} {e : α → List Int} {l : List α} (h : ∀ x ∈ l, B8 (e x)) : B8 (rowd e l) := (cnt_b8 _).app (.flat h)
theorem es_b8 {ks : List Nat} (h : ∀ k ∈ ks, k < 95) : B8 (eS ks) := (cnt_b8 _).app fun i hi => by
  obtain ⟨k, hk, rfl⟩ := List.mem_map.mp hi
  have := h k hk
  show 0 ≤ (k : Int) ∧ (k : Int) ≤ 255
  omega
theorem ref_b8 (r : DRef) : B8 r.e := .cons (by split <;> decide) ((cnt_b8 _).app (cnt_b8 _))
theorem sd_b8 (r : DSd) : B8 r.e := (cnt_b8 _).app (cnt_b8 _)
theorem wt_b8 (w : DWt) : B8 w.en := (cnt_b8 _).app (cnt_b8 _)
theorem at_b8 {a : DAt} (h : a.ok) : B8 a.e := by
  cases a with
  | non => exact .cons (by decide) .nil
  | bl b => exact .cons (by split <;> decide) .nil
  | int i => exact .cons (by decide) (cnt_b8 _)
  | txt ks => exact .cons (by decide) (es_b8 fun k hk => Nat.lt_trans (h.1 k hk) (by decide))
  | ref r => exact .cons (by decide) (ref_b8 r)
theorem va_b8 {x : DVa} (h : x.ok) : B8 x.e := by
  cases x with
  | one a => exact .cons (by decide) (at_b8 h)
  | lst as => exact .cons (by decide) (row_b8 fun x hx => at_b8 (h.2 x hx))
theorem name_b8 {ks : List Nat} (h : Tl ks) : B8 (eS ks) := es_b8 fun k hk => Nat.lt_trans (h k hk).2 (by decide)
theorem msg_b8 {m : DMsg} (h : m.ok) : B8 m.e := by
  obtain ⟨h1, h2, h3, h4, h5, h6⟩ := h
  exact ((((((sd_b8 _).app (ref_b8 _)).app (cnt_b8 _)).app (name_b8 h4.1)).app (row_b8 fun x hx => va_b8 (h5.2 x hx))).app (row_b8 fun x _ => sd_b8 x))
theorem tg_b8 (t : DTg) : B8 t.e := by
  cases t with
  | obj n => exact .cons (by decide) (cnt_b8 _)
  | prom n => exact .cons (by decide) (cnt_b8 _)
  | ans v q => exact .cons (by decide) ((cnt_b8 _).app (cnt_b8 _))
theorem sh_b8 (sh : List DWt) : B8 (rowd DWt.en sh) := row_b8 fun x _ => wt_b8 x
theorem co_b8 {c : DCo} (h : c.ok) : B8 (c.k :: c.e) := by
  cases c with
  | message m t w q sh => exact .cons (by show (0 : Int) ≤ 0 ∧ (0 : Int) ≤ 255; decide) (((((msg_b8 h.1).app (tg_b8 _)).app (wt_b8 _)).app (cnt_b8 _)).app (sh_b8 _))
  | fulfill r n x sh => exact .cons (by cases r <;> (first | (show (0 : Int) ≤ 1 ∧ (1 : Int) ≤ 255; decide) | (show (0 : Int) ≤ 4 ∧ (4 : Int) ≤ 255; decide))) (((cnt_b8 _).app (va_b8 h.2.1)).app (sh_b8 _))
  | brk r n ks => exact .cons (by cases r <;> (first | (show (0 : Int) ≤ 2 ∧ (2 : Int) ≤ 255; decide) | (show (0 : Int) ≤ 5 ∧ (5 : Int) ≤ 255; decide))) ((cnt_b8 _).app (es_b8 fun k hk => Nat.lt_trans (h.2.1 k hk) (by decide)))
  | subscribe n w => exact .cons (by show (0 : Int) ≤ 3 ∧ (3 : Int) ≤ 255; decide) ((cnt_b8 _).app (wt_b8 _))
  | release r w => exact .cons (by show (0 : Int) ≤ 6 ∧ (6 : Int) ≤ 255; decide) ((ref_b8 _).app (wt_b8 _))
  | relans n w => exact .cons (by show (0 : Int) ≤ 7 ∧ (7 : Int) ≤ 255; decide) ((cnt_b8 _).app (wt_b8 _))
  | transfer x sh => exact .cons (by show (0 : Int) ≤ 8 ∧ (8 : Int) ≤ 255; decide) ((va_b8 h.1).app (sh_b8 _))
theorem pk_b8 {p : DPk} (h : p.ok) : B8 p.e := .app (.cons (by decide) (((cnt_b8 _).app (cnt_b8 _)).app (cnt_b8 _))) (co_b8 h.2.2.2)
theorem en_b8 {c : DEn} (h : c.ok) : B8 c.e := by
  refine (cnt_b8 _).app (.cons ?_ ?_)
  · obtain ⟨j, hj, hj2, _⟩ := en_kind c
    rw [hj]
    omega
  · cases c with
    | start v ks => exact (cnt_b8 _).app (es_b8 h.2.1)
    | create nm vs => exact (name_b8 h.1.1).app (row_b8 fun x hx => va_b8 (h.2.2 x hx))
    | send r nm vs => exact ((ref_b8 _).app (name_b8 h.2.1.1)).app (row_b8 fun x hx => va_b8 (h.2.2.2 x hx))
    | transfer v x => exact (cnt_b8 _).app (va_b8 h.2)
    | take => exact .nil
    | turn => exact .nil
    | collect => exact .nil
    | pin r => exact ref_b8 r
    | release r => exact ref_b8 r
    | receive p => exact pk_b8 h
    | drop rs => exact row_b8 fun x _ => ref_b8 x
end Vl
set_option Elab.async false
set_option linter.all false
set_option maxRecDepth 100000
set_option maxHeartbeats 4000000
namespace Vl
open PySem PySem.Spec PyProof.Rows L2
/-- data whose repr is in bounds -/
def Shw (d : PyData) : Prop := d.showable = true ∧ d.hasDict = false ∧ d.depth ≤ 64 ∧ d.shown.length ≤ sizeLine
theorem shows_of {d : PyData} (h1 : d.showable = true) (h2 : d.hasDict = false) (h3 : PyData.layable0 d = true) (h4 : d.intsShort 13 = true) : Shw d := by
  refine ⟨h1, h2, ?_, Nat.le_trans (shown_le13 h3 h4) (by decide)⟩
  unfold PyData.layable0 at h3
  simp only [Bool.and_eq_true, decide_eq_true_eq] at h3
  exact h3.1.2
theorem int_short {i : Int} (h : 0 ≤ i) (h2 : i < 10 ^ 13) : (PyData.int i).intsShort 13 = true := by
  unfold PyData.intsShort
  refine decide_eq_true ?_
  exact toString_length_le h (by decide) h2
theorem int_log {i : Int} (h : 0 ≤ i) (h2 : i ≤ 255) : i.natAbs.log2 < 8 := by
  by_cases z : i.natAbs = 0
  · rw [z]
    decide
  · rw [Nat.log2_lt z]
    omega
theorem ints_all : ∀ l : List Int, B8 l → PyData.showableAll (l.map .int) = true ∧ PyData.hasDictAll (l.map .int) = false ∧ PyData.canLayAll0 (l.map .int) = true ∧ PyData.depthAll (l.map .int) ≤ 0 ∧ PyData.weightAll (l.map .int) ≤ 9 * l.length ∧ PyData.intsShortAll 13 (l.map .int) = true
  | [], _ => ⟨rfl, rfl, rfl, by simp [PyData.depthAll], by simp [PyData.weightAll], rfl⟩
  | i :: l, h => by
    obtain ⟨h1, h2, h3, h4, h5, h6⟩ := ints_all l fun j hj => h j (List.mem_cons_of_mem _ hj)
    obtain ⟨g1, g2⟩ := h i List.mem_cons_self
    have hlog := int_log g1 g2
    refine ⟨?_, ?_, ?_, ?_, ?_, ?_⟩
    · rw [List.map_cons]
      unfold PyData.showableAll PyData.showable
      rw [h1, Bool.and_true]
      exact decide_eq_true (by omega)
    · rw [List.map_cons]
      unfold PyData.hasDictAll PyData.hasDict
      rw [h2]
      rfl
    · rw [List.map_cons]
      unfold PyData.canLayAll0 PyData.canLay0
      rw [h3]
      rfl
    · rw [List.map_cons]
      unfold PyData.depthAll PyData.depth
      omega
    · rw [List.map_cons, List.length_cons]
      unfold PyData.weightAll PyData.weight
      split <;> omega
    · rw [List.map_cons]
      unfold PyData.intsShortAll
      rw [h6, int_short g1 (by omega)]
      rfl
theorem shw_list {l : List Int} (h : B8 l) (hl : l.length ≤ 100000) : Shw (.list (l.map .int)) := by
  obtain ⟨h1, h2, h3, h4, h5, h6⟩ := ints_all l h
  refine shows_of ?_ ?_ ?_ ?_
  · unfold PyData.showable
    exact h1
  · unfold PyData.hasDict
    exact h2
  · unfold PyData.layable0 PyData.canLay0 PyData.depth PyData.weight
    rw [h3, decide_eq_true (by omega), decide_eq_true (by omega)]
    rfl
  · unfold PyData.intsShort
    exact h6
end Vl
set_option Elab.async false
set_option linter.all false
set_option maxRecDepth 100000
set_option maxHeartbeats 4000000
namespace Vl
open PySem PySem.Spec PyProof.Rows L2
/-! ### bounds of data for their repr -/
def Gd (w e : Nat) (d : PyData) : Prop := d.showable = true ∧ d.hasDict = false ∧ d.canLay0 = true ∧ d.depth ≤ e ∧ d.weight ≤ w ∧ d.intsShort 13 = true
def Ga (w e : Nat) (ds : List PyData) : Prop := PyData.showableAll ds = true ∧ PyData.hasDictAll ds = false ∧ PyData.canLayAll0 ds = true ∧ PyData.depthAll ds ≤ e ∧ PyData.weightAll ds ≤ w ∧ PyData.intsShortAll 13 ds = true
theorem ga_nil {w e : Nat} : Ga w e [] := ⟨rfl, rfl, rfl, by simp [PyData.depthAll], by simp [PyData.weightAll], rfl⟩
theorem ga_cons {w1 w2 e1 e2 : Nat} {d : PyData} {ds : List PyData} (h : Gd w1 e1 d) (k : Ga w2 e2 ds) : Ga (w1 + 1 + w2) (max e1 e2) (d :: ds) := by
  obtain ⟨a1, a2, a3, a4, a5, a6⟩ := h
  obtain ⟨b1, b2, b3, b4, b5, b6⟩ := k
  refine ⟨?_, ?_, ?_, ?_, ?_, ?_⟩
  · unfold PyData.showableAll
    rw [a1, b1]
    rfl
  · unfold PyData.hasDictAll
    rw [a2, b2]
    rfl
  · unfold PyData.canLayAll0
    rw [a3, b3]
    rfl
  · unfold PyData.depthAll
    omega
  · unfold PyData.weightAll
    omega
  · unfold PyData.intsShortAll
    rw [a6, b6]
    rfl
theorem gd_tup {w e : Nat} {ds : List PyData} (h : Ga w e ds) : Gd w (e + 1) (.tuple ds) := by
  obtain ⟨b1, b2, b3, b4, b5, b6⟩ := h
  refine ⟨by unfold PyData.showable; exact b1, by unfold PyData.hasDict; exact b2, by unfold PyData.canLay0; exact b3, by unfold PyData.depth; omega, by unfold PyData.weight; exact b5, by unfold PyData.intsShort; exact b6⟩
theorem gd_lst {w e : Nat} {ds : List PyData} (h : Ga w e ds) : Gd w (e + 1) (.list ds) := by
  obtain ⟨b1, b2, b3, b4, b5, b6⟩ := h
  refine ⟨by unfold PyData.showable; exact b1, by unfold PyData.hasDict; exact b2, by unfold PyData.canLay0; exact b3, by unfold PyData.depth; omega, by unfold PyData.weight; exact b5, by unfold PyData.intsShort; exact b6⟩
theorem ga_map {α : Type} {D : α → PyData} {w e n W : Nat} : ∀ {l : List α}, (∀ x ∈ l, Gd w e (D x)) → l.length ≤ n → (w + 1) * n ≤ W → Ga W e (l.map D) := by
  have : ∀ l : List α, (∀ x ∈ l, Gd w e (D x)) → Ga ((w + 1) * l.length) e (l.map D) := by
    intro l
    induction l with
    | nil => intro _; exact ga_nil
    | cons x l ih =>
      intro h
      obtain ⟨b1, b2, b3, b4, b5, b6⟩ := ga_cons (h x List.mem_cons_self) (ih fun y hy => h y (List.mem_cons_of_mem _ hy))
      refine ⟨b1, b2, b3, by rw [Nat.max_self] at b4; exact b4, ?_, b6⟩
      rw [List.length_cons, Nat.mul_succ]
      rw [List.map_cons]
      omega
  intro l h hl hW
  obtain ⟨b1, b2, b3, b4, b5, b6⟩ := this l h
  have : (w + 1) * l.length ≤ (w + 1) * n := Nat.mul_le_mul_left _ hl
  exact ⟨b1, b2, b3, b4, by omega, b6⟩
theorem gd_str {w : Nat} {z : Str} (h : PyData.strOk z = true) (hw : z.cps.size ≤ w) {e : Nat} : Gd w e (.str z) :=
  ⟨rfl, rfl, by unfold PyData.canLay0; exact h, by simp [PyData.depth], by unfold PyData.weight; exact hw, rfl⟩
theorem gd_txt {w : Nat} {ks : List Nat} (hw : ks.length ≤ w) {e : Nat} : Gd w e (pS ks) := gd_str (ix_ok ks) (by
  have := ofIx_len ks
  show (ofIx ks).length ≤ w
  omega)
theorem gd_lit {w : Nat} {s : String} (hw : (Str.ofString s).cps.size ≤ w) {e : Nat} : Gd w e (.str s) := gd_str (lit_ok s) hw
theorem gd_bool {w e : Nat} (b : Bool) : Gd w e (.bool b) := ⟨rfl, rfl, rfl, by simp [PyData.depth], by simp [PyData.weight], rfl⟩
theorem toString_length_le13 {i : Int} (h : -1000000000000 < i) (h2 : i < 1000000000000) : (Str.ofString (toString i)).length ≤ 13 := by
  by_cases z : 0 ≤ i
  · exact Nat.le_trans (toString_length_le z (k := 12) (by decide) (by omega)) (by decide)
  · have a := toString_length_le (v := 0 - i) (k := 12) (by omega) (by decide) (by omega)
    rw [toString_neg (by omega)]
    rw [PyProof.Rows.ofString_length] at a ⊢
    rw [String.toList_append, List.length_append]
    have : ("-" : String).toList.length = 1 := rfl
    omega
theorem gd_int {e : Nat} {i : Int} (h : -1000000000000 < i) (h2 : i < 1000000000000) : Gd 41 e (.int i) := by
  have hl : i.natAbs.log2 < 40 := by
    by_cases z : i.natAbs = 0
    · rw [z]
      decide
    · rw [Nat.log2_lt z]
      omega
  refine ⟨?_, rfl, rfl, by simp [PyData.depth], ?_, ?_⟩
  · unfold PyData.showable
    exact decide_eq_true (by omega)
  · unfold PyData.weight
    split <;> omega
  · unfold PyData.intsShort
    refine decide_eq_true ?_
    rw [PyData.shown_int]
    exact toString_length_le13 h h2
theorem gd_n {n e : Nat} (h : n < 1000000000000) : Gd 41 e (pN n) := gd_int (by omega) (by omega)
theorem gd_up {w e w2 e2 : Nat} {d : PyData} (h : Gd w e d) (hw : w ≤ w2) (he : e ≤ e2) : Gd w2 e2 d := ⟨h.1, h.2.1, h.2.2.1, by have := h.2.2.2.1; omega, by have := h.2.2.2.2.1; omega, h.2.2.2.2.2⟩
theorem gd_ref {r : DRef} (h : r.ok) : Gd 100 1 r.d := by
  obtain ⟨h1, h2, h3, h4⟩ := h
  have k : Gd 7 0 (.str (if r.p then "promise" else "object")) := by
    split
    · exact gd_lit (by decide +kernel)
    · exact gd_lit (by decide +kernel)
  exact gd_up (gd_tup (ga_cons k (ga_cons (gd_n (e := 0) (by omega)) (ga_cons (gd_n (e := 0) (by omega)) (ga_nil (w := 0) (e := 0)))))) (by decide) (by decide)
theorem gd_sd {r : DSd} (h : r.ok) : Gd 100 1 r.d := by
  obtain ⟨h1, h2, h3, h4⟩ := h
  exact gd_up (gd_tup (ga_cons (gd_n (e := 0) (by omega)) (ga_cons (gd_n (e := 0) (by omega)) (ga_nil (w := 0) (e := 0))))) (by decide) (by decide)
theorem gd_wt {r : DWt} (h : r.ok) : Gd 100 1 r.d := by
  obtain ⟨h1, h2, h3, h4, h5⟩ := h
  exact gd_up (gd_tup (ga_cons (gd_n (e := 0) (by omega)) (ga_cons (gd_n (e := 0) (by omega)) (ga_nil (w := 0) (e := 0))))) (by decide) (by decide)
theorem gd_at {a : DAt} (h : a.ok) : Gd 100 1 a.d := by
  cases a with
  | non => exact gd_up (gd_tup (ga_cons (gd_lit (w := 4) (e := 0) (by decide +kernel)) (ga_nil (w := 0) (e := 0)))) (by decide) (by decide)
  | bl b => exact gd_up (gd_tup (ga_cons (gd_lit (w := 4) (e := 0) (by decide +kernel)) (ga_cons (gd_bool (w := 0) (e := 0) b) (ga_nil (w := 0) (e := 0))))) (by decide) (by decide)
  | int i => exact gd_up (gd_tup (ga_cons (gd_lit (w := 4) (e := 0) (by decide +kernel)) (ga_cons (gd_int (e := 0) (by have := h.1; omega) (by have := h.2; omega)) (ga_nil (w := 0) (e := 0))))) (by decide) (by decide)
  | txt ks => exact gd_up (gd_tup (ga_cons (gd_lit (w := 4) (e := 0) (by decide +kernel)) (ga_cons (gd_txt (w := 20) (e := 0) h.2) (ga_nil (w := 0) (e := 0))))) (by decide) (by decide)
  | ref r => exact gd_ref h
theorem gd_va {x : DVa} (h : x.ok) : Gd 1000 3 x.d := by
  cases x with
  | one a => exact gd_up (gd_at h) (by decide) (by decide)
  | lst as => exact gd_up (gd_tup (ga_cons (gd_lit (w := 4) (e := 0) (by decide +kernel)) (ga_cons (gd_tup (ga_map (W := 808) (fun a ha => gd_at (h.2 a ha)) h.1 (by decide))) (ga_nil (w := 0) (e := 0))))) (by decide) (by decide)
theorem gd_vas {l : List DVa} {n : Nat} (hl : l.length ≤ n) (hn : n ≤ 6) (h : ∀ x ∈ l, x.ok) : Gd 6006 4 (.tuple (l.map DVa.d)) := gd_up (gd_tup (ga_map (n := 6) (W := 6006) (fun x hx => gd_va (h x hx)) (by omega) (by decide))) (by decide) (by decide)
theorem gd_msg {m : DMsg} (h : m.ok) : Gd 30000 5 m.d := by
  obtain ⟨h1, h2, h3, h4, h5, h6⟩ := h
  exact gd_up (gd_tup (ga_cons (gd_sd h1) (ga_cons (gd_ref h2) (ga_cons (gd_n (e := 0) (by omega)) (ga_cons (gd_txt (w := 12) (e := 0) h4.2.2) (ga_cons (gd_vas h5.1 (by decide) h5.2) (ga_cons (gd_tup (ga_map (W := 20200) (fun a ha => gd_sd (h6.2 a ha)) h6.1 (by decide))) (ga_nil (w := 0) (e := 0))))))))) (by decide) (by decide)
theorem gd_tg {t : DTg} (h : t.ok) : Gd 100 1 t.d := by
  cases t with
  | obj n => exact gd_up (gd_tup (ga_cons (gd_lit (w := 6) (e := 0) (by decide +kernel)) (ga_cons (gd_n (e := 0) (by have := h.2; omega)) (ga_nil (w := 0) (e := 0))))) (by decide) (by decide)
  | prom n => exact gd_up (gd_tup (ga_cons (gd_lit (w := 7) (e := 0) (by decide +kernel)) (ga_cons (gd_n (e := 0) (by have := h.2; omega)) (ga_nil (w := 0) (e := 0))))) (by decide) (by decide)
  | ans v q => exact gd_up (gd_tup (ga_cons (gd_lit (w := 6) (e := 0) (by decide +kernel)) (ga_cons (gd_n (e := 0) (by have := h.1.2; omega)) (ga_cons (gd_n (e := 0) (by have := h.2.2; omega)) (ga_nil (w := 0) (e := 0)))))) (by decide) (by decide)
theorem gd_shs {vs : List DVa} {sh : List DWt} (h : Sh vs sh) (hn : vs.length ≤ 4) (ho : ∀ x ∈ vs, x.ok) : Gd 4000 2 (.tuple (sh.map DWt.d)) := by
  have h1 := refs_len vs hn ho
  have h2 := addR_len (vs.flatMap DVa.refs) []
  have h3 : sh.length ≤ 32 := by
    rw [h.1]
    unfold dist
    simp only [List.length_nil] at h2
    omega
  exact gd_up (gd_tup (ga_map (n := 32) (W := 4000) (fun x hx => gd_wt (h.2 x hx)) h3 (by decide))) (by decide) (by decide)
theorem gd_co {c : DCo} (h : c.ok) : Gd 40000 6 c.d := by
  cases c with
  | message m t w q sh =>
    obtain ⟨h1, h2, h3, h4, h5⟩ := h
    exact gd_up (gd_tup (ga_cons (gd_lit (w := 7) (e := 0) (by decide +kernel)) (ga_cons (gd_msg h1) (ga_cons (gd_tg h2) (ga_cons (gd_wt h3) (ga_cons (gd_n (e := 0) (by have := h4.2; omega)) (ga_cons (gd_shs h5 h1.2.2.2.2.1.1 h1.2.2.2.2.1.2) (ga_nil (w := 0) (e := 0))))))))) (by decide) (by decide)
  | fulfill r n x sh =>
    obtain ⟨h1, h2, h3⟩ := h
    have k : Gd 8 0 (.str (if r then "resolved" else "fulfill")) := by
      split
      · exact gd_lit (by decide +kernel)
      · exact gd_lit (by decide +kernel)
    exact gd_up (gd_tup (ga_cons k (ga_cons (gd_n (e := 0) (by have := h1.2; omega)) (ga_cons (gd_va h2) (ga_cons (gd_shs h3 (by show 1 ≤ 4; decide) (fun y hy => by rw [List.mem_singleton.mp hy]; exact h2)) (ga_nil (w := 0) (e := 0))))))) (by decide) (by decide)
  | brk r n ks =>
    have k : Gd 15 0 (.str (if r then "resolved_broken" else "break")) := by
      split
      · exact gd_lit (by decide +kernel)
      · exact gd_lit (by decide +kernel)
    exact gd_up (gd_tup (ga_cons k (ga_cons (gd_n (e := 0) (by have := h.1.2; omega)) (ga_cons (gd_txt (w := 20) (e := 0) h.2.2) (ga_nil (w := 0) (e := 0)))))) (by decide) (by decide)
  | subscribe n w => exact gd_up (gd_tup (ga_cons (gd_lit (w := 9) (e := 0) (by decide +kernel)) (ga_cons (gd_n (e := 0) (by have := h.1.2; omega)) (ga_cons (gd_wt h.2) (ga_nil (w := 0) (e := 0)))))) (by decide) (by decide)
  | release r w => exact gd_up (gd_tup (ga_cons (gd_lit (w := 7) (e := 0) (by decide +kernel)) (ga_cons (gd_ref h.1) (ga_cons (gd_wt h.2) (ga_nil (w := 0) (e := 0)))))) (by decide) (by decide)
  | relans n w => exact gd_up (gd_tup (ga_cons (gd_lit (w := 14) (e := 0) (by decide +kernel)) (ga_cons (gd_n (e := 0) (by have := h.1.2; omega)) (ga_cons (gd_wt h.2) (ga_nil (w := 0) (e := 0)))))) (by decide) (by decide)
  | transfer x sh => exact gd_up (gd_tup (ga_cons (gd_lit (w := 8) (e := 0) (by decide +kernel)) (ga_cons (gd_va h.1) (ga_cons (gd_shs h.2 (by show 1 ≤ 4; decide) (fun y hy => by rw [List.mem_singleton.mp hy]; exact h.1)) (ga_nil (w := 0) (e := 0)))))) (by decide) (by decide)
theorem gd_pk {p : DPk} (h : p.ok) : Gd 50000 7 p.d := by
  obtain ⟨h1, h2, h3, h4⟩ := h
  exact gd_up (gd_tup (ga_cons (gd_n (e := 0) (by omega)) (ga_cons (gd_n (e := 0) (by omega)) (ga_cons (gd_n (e := 0) (by have := h3.2; omega)) (ga_cons (gd_co h4) (ga_nil (w := 0) (e := 0))))))) (by decide) (by decide)
theorem gd_en {c : DEn} (h : c.ok) (hs : c.sm) : Gd 200000 8 c.d := by
  cases c with
  | start v ks =>
    obtain ⟨h1, h2, h3⟩ := h
    exact gd_up (gd_tup (ga_cons (gd_lit (w := 5) (e := 0) (by decide +kernel)) (ga_cons (gd_n (e := 0) (by omega)) (ga_cons (gd_txt (w := 4000) (e := 0) h3) (ga_nil (w := 0) (e := 0)))))) (by decide) (by decide)
  | create nm vs =>
    obtain ⟨h1, h2, h3⟩ := h
    exact gd_up (gd_tup (ga_cons (gd_lit (w := 6) (e := 0) (by decide +kernel)) (ga_cons (gd_txt (w := 12) (e := 0) h1.2.2) (ga_cons (gd_vas h2 (by decide) h3) (ga_nil (w := 0) (e := 0)))))) (by decide) (by decide)
  | send r nm vs =>
    obtain ⟨h0, h1, h2, h3⟩ := h
    exact gd_up (gd_tup (ga_cons (gd_lit (w := 4) (e := 0) (by decide +kernel)) (ga_cons (gd_ref h0) (ga_cons (gd_txt (w := 12) (e := 0) h1.2.2) (ga_cons (gd_vas h2 (by decide) h3) (ga_nil (w := 0) (e := 0))))))) (by decide) (by decide)
  | transfer v x => exact gd_up (gd_tup (ga_cons (gd_lit (w := 8) (e := 0) (by decide +kernel)) (ga_cons (gd_n (e := 0) (by have := h.1.2; omega)) (ga_cons (gd_va h.2) (ga_nil (w := 0) (e := 0)))))) (by decide) (by decide)
  | take => exact gd_up (gd_tup (ga_cons (gd_lit (w := 7) (e := 0) (by decide +kernel)) (ga_nil (w := 0) (e := 0)))) (by decide) (by decide)
  | turn => exact gd_up (gd_tup (ga_cons (gd_lit (w := 7) (e := 0) (by decide +kernel)) (ga_nil (w := 0) (e := 0)))) (by decide) (by decide)
  | collect => exact gd_up (gd_tup (ga_cons (gd_lit (w := 7) (e := 0) (by decide +kernel)) (ga_nil (w := 0) (e := 0)))) (by decide) (by decide)
  | pin r => exact gd_up (gd_tup (ga_cons (gd_lit (w := 7) (e := 0) (by decide +kernel)) (ga_cons (gd_ref h) (ga_nil (w := 0) (e := 0))))) (by decide) (by decide)
  | release r => exact gd_up (gd_tup (ga_cons (gd_lit (w := 7) (e := 0) (by decide +kernel)) (ga_cons (gd_ref h) (ga_nil (w := 0) (e := 0))))) (by decide) (by decide)
  | receive p => exact gd_up (gd_tup (ga_cons (gd_lit (w := 7) (e := 0) (by decide +kernel)) (ga_cons (gd_pk h) (ga_nil (w := 0) (e := 0))))) (by decide) (by decide)
  | drop rs => exact gd_up (gd_tup (ga_cons (gd_lit (w := 4) (e := 0) (by decide +kernel)) (ga_cons (gd_tup (ga_map (n := 1000) (W := 101000) (fun a ha => gd_ref (h.2 a ha)) hs (by decide))) (ga_nil (w := 0) (e := 0))))) (by decide) (by decide)
theorem shw_gd {w e : Nat} {d : PyData} (h : Gd w e d) (hw : w ≤ 1000000) (he : e ≤ 64) : Shw d := by
  obtain ⟨b1, b2, b3, b4, b5, b6⟩ := h
  refine shows_of b1 b2 ?_ b6
  unfold PyData.layable0
  rw [b3, decide_eq_true (by omega), decide_eq_true (by omega)]
  rfl
/-- the rows of a journal of two entries -/
theorem shw_rows {c1 c2 : DEn} {n1 n2 : Nat} (h1 : c1.ok) (s1 : c1.sm) (h2 : c2.ok) (s2 : c2.sm) (hn1 : n1 ≤ 1000000) (hn2 : n2 ≤ 1000000) : Shw (.list [.tuple [c1.d, pN n1], .tuple [c2.d, pN n2]]) := by
  have a : ∀ {c : DEn} {n : Nat}, c.ok → c.sm → n ≤ 1000000 → Gd 300000 9 (.tuple [c.d, pN n]) := fun {c n} h s hn => gd_up (gd_tup (ga_cons (gd_en h s) (ga_cons (gd_n (e := 0) (by omega)) (ga_nil (w := 0) (e := 0))))) (by decide) (by decide)
  exact shw_gd (w := 700000) (e := 10) (gd_up (gd_lst (ga_cons (a h1 s1 hn1) (ga_cons (a h2 s2 hn2) (ga_nil (w := 0) (e := 0))))) (by decide) (by decide)) (by decide) (by decide)
end Vl
set_option Elab.async false
set_option linter.all false
set_option maxRecDepth 100000
set_option maxHeartbeats 4000000
namespace Vl
open PySem PySem.Spec PyProof.Rows L2
/-! ### what is drawn: a box of digits and a place -/
/-- a draw's box, its digits among what stood at the beginning -/
def Bb (b : Addr) (dl : Addr) (H : Hp) : Prop := b ≠ dl ∧ ∃ dg : List Int, ∃ p : Nat, H b = some (.lst [.ref dl, .int (p : Nat)]) ∧ H dl = some (.lst (vints dg))
section
variable {b dl D : Addr} {H H1 H2 : Hp} {o : HO}
theorem Bb.b0 (h : Bb b dl H) : H b ≠ none := fun e => by
  obtain ⟨_, dg, p, h1, _⟩ := h
  rw [e] at h1
  cases h1
theorem Bb.d0 (h : Bb b dl H) : H dl ≠ none := fun e => by
  obtain ⟨_, dg, p, _, h1⟩ := h
  rw [e] at h1
  cases h1
theorem Bb.upd (h : Bb b dl H1) (n1 : b ≠ D) (n2 : dl ≠ D) : Bb b dl (L2.upd H1 D o) := by
  obtain ⟨n, dg, p, h1, h2⟩ := h
  refine ⟨n, dg, p, ?_, ?_⟩
  · rw [upd_ne n1]
    exact h1
  · rw [upd_ne n2]
    exact h2
theorem Bb.new (h : Bb b dl H1) (n : H1 D = none) : Bb b dl (L2.upd H1 D o) := h.upd (fun e => h.b0 (by rw [e]; exact n)) (fun e => h.d0 (by rw [e]; exact n))
theorem Bb.keep (h : Bb b dl H1) (s : Same H1 H2) : Bb b dl H2 := by
  obtain ⟨n, dg, p, h1, h2⟩ := h
  exact ⟨n, dg, p, s _ _ h1, s _ _ h2⟩
/-- tuples stay -/
theorem Bb.tup (h : Bb b dl H1) (o : Off (· = b) H1 H2) : TupKeep H1 H2 := by
  obtain ⟨n, dg, p, h1, h2⟩ := h
  refine ⟨fun c xs e => o c _ (fun q => ?_) e, fun c x u e => o c _ (fun q => ?_) e⟩
  · rw [q, h1] at e
    cases e
  · rw [q, h1] at e
    cases e
end
/-- a drawer's promise: some datum in bounds -/
def spG {α : Type} (K : PySem.W.Frag) (D : α → PyData) (P : α → Prop) : Sp := Sp1 fun a H Q _ => ∃ b dl, a = .ref b ∧ Bb b dl H ∧ ∀ v H' x, Off (· = b) H H' → Bb b dl H' → Dp K H' v (D x) → P x → Q v H'
def spG2 {α : Type} (K : PySem.W.Frag) (D : α → PyData) (P : Int → α → Prop) : Sp := Sp2 fun a m H Q _ => ∃ b dl, ∃ i : Int, a = .ref b ∧ m = .int i ∧ Bb b dl H ∧ ∀ v H' x, Off (· = b) H H' → Bb b dl H' → Dp K H' v (D x) → P i x → Q v H'
def spDr (K : PySem.W.Frag) : Sp := Sp2 fun a m H Q _ => ∃ b dl, ∃ n : Nat, a = .ref b ∧ m = .int n ∧ 0 < n ∧ Bb b dl H ∧ ∀ H' (d : Nat), Off (· = b) H H' → Bb b dl H' → d < n → Q (.int d) H'
section
variable {α : Type} {K : PySem.W.Frag} {D : α → PyData} {P : α → Prop} {b dl : Addr} {H : Hp} {Q : VK} {E : XK}
theorem dcall {m : Int} (n : Nat) (hm : m = n) (hn : 0 < n) (B : Bb b dl H) (k : ∀ H' (d : Nat), Off (· = b) H H' → Bb b dl H' → d < n → Q (.int d) H') : spDr K [.ref b, .int m] H Q E :=
  ⟨_, _, rfl, b, dl, n, rfl, by rw [hm], hn, B, k⟩
theorem gcall' (B : Bb b dl H) (k : ∀ v H' x, Off (· = b) H H' → Bb b dl H' → Dp K H' v (D x) → P x → Q v H') : spG K D P [.ref b] H Q E := ⟨_, rfl, b, dl, rfl, B, k⟩
theorem gcall2 {P : Int → α → Prop} {i : Int} (B : Bb b dl H) (k : ∀ v H' x, Off (· = b) H H' → Bb b dl H' → Dp K H' v (D x) → P i x → Q v H') : spG2 K D P [.ref b, .int i] H Q E := ⟨_, _, rfl, b, dl, i, rfl, rfl, B, k⟩
end
section
variable {α : Type} {σ : L2.St} {K : PySem.W.Frag} {g : TG} {te : TE} {vs : List Nat} {H : Hp} {Q : VK} {b dl : Addr}
/-- what is built so far -/
def Dr (K : PySem.W.Frag) (b dl : Addr) (DD : α → PyData) (P : α → Prop) (H : Hp) (D : Addr) (i : Nat) (H1 : Hp) : Prop :=
  H D = none ∧ ∃ acc, ∃ ds : List α, H1 D = some (.lst acc) ∧ ds.length = i ∧ (∀ d ∈ ds, P d) ∧ DpAll K H1 acc (ds.map DD) ∧ Off (· = b) H H1 ∧ Bb b dl H1
theorem Dr.zero {DD : α → PyData} {P : α → Prop} (B : Bb b dl H) (D : Addr) (n : H D = none) : Dr K b dl DD P H D 0 (upd H D (.lst [])) :=
  ⟨n, [], [], upd_same, rfl, fun _ h => (by cases h), .nil, Off.put .refl n, B.new n⟩
theorem Dr.step {DD : α → PyData} {P : α → Prop} (B : Bb b dl H) (hn : ∀ x, noL (DD x) = true) {D : Addr} {i : Nat} {d : α} {H1 H2 : Hp} {y : V} (hi : i ≤ 1000000) (h : Dr K b dl DD P H D i H1) (o : Off (· = b) H1 H2) (B2 : Bb b dl H2) (r : Dp K H2 y (DD d)) (hp : P d) :
    ∃ acc, H2 D = some (.lst acc) ∧ acc.length < sizeLine ∧ Dr K b dl DD P H D (i + 1) (upd H2 D (.lst (acc ++ [y]))) := by
  obtain ⟨n, acc, ds, e, hl, hq, a2, o1, B1⟩ := h
  have nb : b ≠ D := fun c => B.b0 (by rw [c]; exact n)
  have nd : dl ≠ D := fun c => B.d0 (by rw [c]; exact n)
  have e2 := o D _ (fun c => nb c.symm) e
  have hz : acc.length = i := by rw [DpAll.length a2, List.length_map, hl]
  have t2 := tup_upd (zs := acc ++ [y]) e2
  refine ⟨acc, e2, small1000000 (by omega), n, acc ++ [y], ds ++ [d], upd_same, by rw [List.length_append, hl]; rfl, fun z hz => ?_, ?_, Off.put (o1.trans o) n, B2.upd nb nd⟩
  · rcases List.mem_append.mp hz with h | h
    · exact hq z h
    · rw [List.mem_singleton.mp h]
      exact hp
  · rw [List.map_append]
    exact DpAll.app (t2.dpAll (noLs_of hn _) ((B1.tup o).dpAll (noLs_of hn _) a2)) (.cons (t2.dp (hn d) r) .nil)
/-- [draw(box) for k in range(n)] -/
theorem lcNx (DD : α → PyData) (P : α → Prop) (B : Bb b dl H) (hn : ∀ x, noL (DD x) = true) {lo : Int} {n : Nat} (hl : n ≤ 1000000)
    (step : ∀ i : Nat, i < n → ∀ H1, Off (· = b) H H1 → Bb b dl H1 → ∀ N : VK, (∀ y d H2, Off (· = b) H1 H2 → Bb b dl H2 → Dp K H2 y (DD d) → P d → N y H2) → g (.int (lo + i)) (wipe σ vs) H1 fun σ2 H2 => wipe σ2 vs = wipe σ vs ∧ te σ2 H2 N)
    (hd : ∀ (D : Addr) (H1 : Hp) (ys : List V) (ds : List α), ds.length = n → (∀ d ∈ ds, P d) → H D = none → Off (· = b) H H1 → Bb b dl H1 → H1 D = some (.lst ys) → DpAll K H1 ys (ds.map DD) → Q (.ref D) H1) : LcR (Itr lo n) g tYes te vs σ H Q := by
  refine lcN (Dr K b dl DD P H) (fun D nD => Dr.zero B D nD) (fun D i H1 hx h => ?_) (fun D H1 h => ?_)
  · obtain ⟨n, acc, ds, e, hl2, hq, a2, o1, B1⟩ := id h
    exact step i hx H1 o1 B1 _ fun y d H2 o B2 r hp => Dr.step B hn (by omega) h o B2 r hp
  · obtain ⟨n, acc, ds, e, hl2, hq, a2, o1, B1⟩ := h
    exact hd D H1 acc ds hl2 hq n o1 B1 e a2
/-- over a list that stays -/
theorem lcLx {a : Addr} {xs : List V} (DD : α → PyData) (P : α → Prop) (B : Bb b dl H) (ha : H a = some (.lst xs)) (hab : a ≠ b) (hn : ∀ x, noL (DD x) = true) (hl : xs.length ≤ 1000000)
    (step : ∀ x H1, Off (· = b) H H1 → Bb b dl H1 → ∀ N : VK, (∀ y d H2, Off (· = b) H1 H2 → Bb b dl H2 → Dp K H2 y (DD d) → P d → N y H2) → g x (wipe σ vs) H1 fun σ2 H2 => wipe σ2 vs = wipe σ vs ∧ te σ2 H2 N)
    (hd : ∀ (D : Addr) (H1 : Hp) (ys : List V) (ds : List α), ds.length = xs.length → (∀ d ∈ ds, P d) → H D = none → Off (· = b) H H1 → Bb b dl H1 → H1 D = some (.lst ys) → DpAll K H1 ys (ds.map DD) → Q (.ref D) H1) : (∃ xs, SqL K H a xs) ∧ LcR (Itl K a) g tYes te vs σ H Q := by
  refine lcL (Dr K b dl DD P H) (.of ha) (fun D nD => Dr.zero B D nD) (fun D i H1 _ h => ?_) (fun D i x H1 hx h => ?_) (fun D H1 h => ?_)
  · obtain ⟨n, acc, ds, e, hl2, hq, a2, o1, B1⟩ := h
    exact .of (o1 a _ hab ha)
  · obtain ⟨n, acc, ds, e, hl2, hq, a2, o1, B1⟩ := id h
    have := (List.getElem?_eq_some_iff.mp hx).1
    exact step x H1 o1 B1 _ fun y d H2 o B2 r hp => Dr.step B hn (by omega) h o B2 r hp
  · obtain ⟨n, acc, ds, e, hl2, hq, a2, o1, B1⟩ := h
    exact hd D H1 acc ds hl2 hq n o1 B1 e a2
end
end Vl
namespace Vl
open PySem PySem.Spec PyProof.Rows L2
abbrev lettersS : Str := "abcdefghijklmnopqrstuvwxyz"
theorem let_at : ∀ k : Nat, k < 26 → atI lettersS.cps.toList (k : Int) = some (sgAt (k + 64)) := by decide +kernel
theorem ixlet {k : Nat} {H : Hp} {Q : VK} (h : k < 26) (q : Q (.str ⟨#[sgAt (k + 64)]⟩) H) : rIxS (.str lettersS) (.int (k : Nat)) H Q :=
  ⟨lettersS, _, _, rfl, rfl, by decide +kernel, let_at k h, q⟩
abbrev abcS : Str := "abcxyz"
def abcI (k : Nat) : Nat := if k < 3 then k + 64 else k + 84
theorem abc_at : ∀ k : Nat, k < 6 → atI abcS.cps.toList (k : Int) = some (sgAt (abcI k)) := by decide +kernel
theorem ixabc {k : Nat} {H : Hp} {Q : VK} (h : k < 6) (q : Q (.str ⟨#[sgAt (abcI k)]⟩) H) : rIxS (.str abcS) (.int (k : Nat)) H Q :=
  ⟨abcS, _, _, rfl, rfl, by decide +kernel, abc_at k h, q⟩
theorem abcI_ok {k : Nat} (h : k < 6) : 64 ≤ abcI k ∧ abcI k < 90 := by
  unfold abcI
  split <;> omega
end Vl
namespace Vl
open PySem PySem.Spec PyProof.Rows L2
/-! ### lines -/
def tot (ls : List (List Nat)) : Nat := (ls.map fun l => l.length + 1).sum
def vl (ls : List (List Nat)) : List V := ls.map fun l => V.str (ofIx l)
theorem tot_app (a b : List (List Nat)) : tot (a ++ b) = tot a + tot b := by
  unfold tot
  rw [List.map_append, List.sum_append]
theorem tot_one (l : List Nat) : tot [l] = l.length + 1 := by
  simp [tot]
theorem vl_app (a b : List (List Nat)) : vl (a ++ b) = vl a ++ vl b := List.map_append ..
theorem vl_snoc (a : List (List Nat)) (l : List Nat) : vl (a ++ [l]) = vl a ++ [V.str (ofIx l)] := vl_app a [l]
theorem vl_len (a : List (List Nat)) : (vl a).length = a.length := List.length_map ..
theorem len_tot : ∀ ls : List (List Nat), ls.length ≤ tot ls
  | [] => Nat.zero_le _
  | l :: ls => by
    have := len_tot ls
    rw [show tot (l :: ls) = (l.length + 1) + tot ls by simp [tot], List.length_cons]
    omega
theorem strAssoc (a b c : Str) : a ++ b ++ c = a ++ (b ++ c) := by
  show (⟨a.cps ++ b.cps ++ c.cps⟩ : Str) = ⟨a.cps ++ (b.cps ++ c.cps)⟩
  rw [Array.append_assoc]
theorem strLen (a b : Str) : (a ++ b).length = a.length + b.length := by
  show (a.cps ++ b.cps).size = _
  rw [Array.size_append]
  rfl
theorem nlS : ("\n" : Str) = ofIx [94] := nl_ix
theorem joinNl : ∀ ls : List (List Nat), ls ≠ [] → Str.join ("\n" : Str) (ls.map ofIx) ++ ("\n" : Str) = ofIx (ls.flatMap (· ++ [94]))
  | [], h => absurd rfl h
  | [l], _ => by
    show ofIx l ++ ("\n" : Str) = _
    rw [nlS, ofIx_app]
    simp
  | l :: m :: r, _ => by
    have ih := joinNl (m :: r) (by simp)
    show (ofIx l ++ ("\n" : Str) ++ Str.join ("\n" : Str) ((m :: r).map ofIx)) ++ ("\n" : Str) = _
    rw [strAssoc, ih, nlS, ofIx_app, ofIx_app]
    simp only [List.flatMap_cons, List.append_assoc]
theorem joinNl' {ls : List (List Nat)} (h : ls ≠ []) : Txt.join ("\n" : Str) (ls.map ofIx) ++ ("\n" : Str) = ofIx (ls.flatMap (· ++ [94])) := by
  rw [eq_of_beq (join_plain_closes _ _)]
  exact joinNl ls h
theorem flat_tot (ls : List (List Nat)) : (ls.flatMap (· ++ [94])).length = tot ls := by
  induction ls with
  | nil => rfl
  | cons l ls ih =>
    rw [List.flatMap_cons, List.length_append, ih, show tot (l :: ls) = (l.length + 1) + tot ls by simp [tot], List.length_append]
    rfl
theorem flat_tn {ls : List (List Nat)} (h : ∀ l ∈ ls, Tn l) : Tn (ls.flatMap (· ++ [94])) := fun k hk => by
  obtain ⟨l, hl, hkl⟩ := List.mem_flatMap.mp hk
  rcases List.mem_append.mp hkl with q | q
  · exact h l hl k q
  · rw [List.mem_singleton.mp q]
    decide
theorem sums_tot : ∀ ls : List (List Nat), ((ls.map ofIx).map fun x => x.length).sum + (ls.map ofIx).length * 1 = tot ls
  | [] => rfl
  | l :: ls => by
    have ih := sums_tot ls
    rw [show tot (l :: ls) = (l.length + 1) + tot ls by simp [tot]]
    simp only [List.map_cons, List.sum_cons, List.length_cons, ofIx_len] at ih ⊢
    omega
theorem clsA : ("class a 0" : Str) = ofIx [66, 75, 64, 82, 82, 0, 64, 0, 15] := by decide +kernel
theorem clsB : ("class b 0" : Str) = ofIx [66, 75, 64, 82, 82, 0, 65, 0, 15] := by decide +kernel
theorem metM : ("method m 0" : Str) = ofIx [76, 68, 83, 71, 78, 67, 0, 76, 0, 15] := by decide +kernel
theorem metS : ("method " : Str) = ofIx [76, 68, 83, 71, 78, 67, 0] := by decide +kernel
theorem sp0S : (" 0" : Str) = ofIx [0, 15] := by decide +kernel
theorem txtS : ("text '" : Str) = ofIx [83, 68, 87, 83, 0, 6] := by decide +kernel
theorem yS : (⟨(List.replicate 20 ("y" : Str).cps.toList).flatten.toArray⟩ : Str) = ofIx (List.replicate 20 88) := by decide +kernel
theorem zS : (⟨(List.replicate 13 ("z" : Str).cps.toList).flatten.toArray⟩ : Str) = ofIx (List.replicate 13 89) := by decide +kernel
theorem mno_at : ∀ k : Nat, k < 8 → atI ("mnopqrst" : Str).cps.toList (k : Int) = some (sgAt (76 + k)) := by decide +kernel
theorem ixmno {k : Nat} {H : Hp} {Q : VK} (h : k < 8) (q : Q (.str ⟨#[sgAt (76 + k)]⟩) H) : rIxS (.str "mnopqrst") (.int (k : Nat)) H Q :=
  ⟨"mnopqrst", _, _, rfl, rfl, by decide +kernel, mno_at k h, q⟩
theorem tnl (l : List Nat) (h : l.all (fun k => decide (k < 95)) = true) : Tn l := fun k hk => of_decide_eq_true (List.all_eq_true.mp h k hk)
end Vl
set_option Elab.async false
set_option linter.all false
set_option maxRecDepth 100000
set_option maxHeartbeats 4000000
namespace Vl
open PySem PySem.Spec PyProof.Rows L2
theorem en_head {K : PySem.W.Frag} {H : Hp} {v : V} (c : DEn) (h : Dp K H v c.d) : ∃ b xs, v = .ref b ∧ SqT K H b (.str (Str.ofString c.kd) :: xs) := by
  cases c with
  | start v ks =>
    obtain ⟨a, x1, x2, x3, rfl, hS, h1, h2, h3⟩ := dT3 h
    rw [dS] at h1
    subst h1
    exact ⟨_, _, rfl, hS⟩
  | create nm vs =>
    obtain ⟨a, x1, x2, x3, rfl, hS, h1, h2, h3⟩ := dT3 h
    rw [dS] at h1
    subst h1
    exact ⟨_, _, rfl, hS⟩
  | send r nm vs =>
    obtain ⟨a, x1, x2, x3, x4, rfl, hS, h1, h2, h3, h4⟩ := dT4 h
    rw [dS] at h1
    subst h1
    exact ⟨_, _, rfl, hS⟩
  | transfer v x =>
    obtain ⟨a, x1, x2, x3, rfl, hS, h1, h2, h3⟩ := dT3 h
    rw [dS] at h1
    subst h1
    exact ⟨_, _, rfl, hS⟩
  | take =>
    obtain ⟨a, x1, rfl, hS, h1⟩ := dT1 h
    rw [dS] at h1
    subst h1
    exact ⟨_, _, rfl, hS⟩
  | turn =>
    obtain ⟨a, x1, rfl, hS, h1⟩ := dT1 h
    rw [dS] at h1
    subst h1
    exact ⟨_, _, rfl, hS⟩
  | collect =>
    obtain ⟨a, x1, rfl, hS, h1⟩ := dT1 h
    rw [dS] at h1
    subst h1
    exact ⟨_, _, rfl, hS⟩
  | pin r =>
    obtain ⟨a, x1, x2, rfl, hS, h1, h2⟩ := dT2 h
    rw [dS] at h1
    subst h1
    exact ⟨_, _, rfl, hS⟩
  | release r =>
    obtain ⟨a, x1, x2, rfl, hS, h1, h2⟩ := dT2 h
    rw [dS] at h1
    subst h1
    exact ⟨_, _, rfl, hS⟩
  | receive p =>
    obtain ⟨a, x1, x2, rfl, hS, h1, h2⟩ := dT2 h
    rw [dS] at h1
    subst h1
    exact ⟨_, _, rfl, hS⟩
  | drop rs =>
    obtain ⟨a, x1, x2, rfl, hS, h1, h2⟩ := dT2 h
    rw [dS] at h1
    subst h1
    exact ⟨_, _, rfl, hS⟩
theorem nl_en (c : DEn) : noL c.d = true := by
  cases c with
  | start v ks => rfl
  | create nm vs => exact nl_tup (noLs_cons rfl (noLs_cons rfl (noLs_cons (nl_vas _) rfl)))
  | send r nm vs => exact nl_tup (noLs_cons rfl (noLs_cons rfl (noLs_cons rfl (noLs_cons (nl_vas _) rfl))))
  | transfer v x => exact nl_tup (noLs_cons rfl (noLs_cons rfl (noLs_cons (nl_va _) rfl)))
  | take => rfl
  | turn => rfl
  | collect => rfl
  | pin r => rfl
  | release r => rfl
  | receive p => exact nl_tup (noLs_cons rfl (noLs_cons (nl_pk _) rfl))
  | drop rs => exact nl_tup (noLs_cons rfl (noLs_cons (nl_refs _) rfl))
theorem sh_pair (n m : Nat) : SeqAt.shaped (.tuple [pN n, pN m]) = true := shaped_of (by simp [pN, PyData.canLay0, PyData.canLayAll0]) (by simp [pN, PyData.depth, PyData.depthAll])
theorem sh_nil : SeqAt.shaped (.tuple []) = true := shaped_of (by simp [PyData.canLay0, PyData.canLayAll0]) (by simp [PyData.depth, PyData.depthAll])
theorem cut2 {xs u t : List V} {p n : Nat} (h : xs.drop p = u ++ t) (hn : u.length = n) (hp : p ≤ xs.length) : cutV xs (some (p : Nat)) (some ((p + n : Nat) : Int)) = u := by
  have hl := congrArg List.length h
  rw [List.length_drop, List.length_append] at hl
  unfold cutV
  rw [HT.sIx_nat, HT.sIx_nat, Nat.min_eq_left hp, Nat.min_eq_left (by omega), h, show p + n - p = n by omega, ← hn, List.take_left']
  rfl
end Vl
set_option Elab.async false
set_option linter.all false
set_option maxRecDepth 100000
set_option maxHeartbeats 4000000
namespace Kt
open PySem PySem.Spec PyProof.Rows L2 Vl
/-! ### the text by places -/
def topS (i : Nat) : Stmt := PySem.Challenge.pw_vatlink_k69_entries_exact.main.body.getD i (.Pass ⟨0, 0, 0, 0⟩)
abbrev s_is_reference : Stmt := topS 10
abbrev s_atoms : Stmt := topS 11
abbrev s_references : Stmt := topS 12
abbrev s_distinct : Stmt := topS 13
abbrev s_write_count : Stmt := topS 20
abbrev s_write_text : Stmt := topS 21
abbrev s_write_weight : Stmt := topS 22
abbrev s_write_reference : Stmt := topS 23
abbrev s_write_atom : Stmt := topS 24
abbrev s_write_value : Stmt := topS 25
abbrev s_Reading___init__ : Stmt := inClass (topS 26) 0
abbrev s_Reading_digits : Stmt := inClass (topS 26) 1
abbrev s_Reading_count : Stmt := inClass (topS 26) 2
abbrev s_Reading_big : Stmt := inClass (topS 26) 3
abbrev s_Reading_text : Stmt := inClass (topS 26) 4
abbrev s_Reading_weight : Stmt := inClass (topS 26) 5
abbrev s_Reading_reference : Stmt := inClass (topS 26) 6
abbrev s_Reading_atom : Stmt := inClass (topS 26) 7
abbrev s_Reading_value : Stmt := inClass (topS 26) 8
abbrev s_write_send : Stmt := topS 37
abbrev s_write_weights : Stmt := topS 38
abbrev s_write_message : Stmt := topS 39
abbrev s_write_target : Stmt := topS 40
abbrev s_write_content_packets : Stmt := topS 41
abbrev s_write_packet : Stmt := topS 43
abbrev s_read_send : Stmt := topS 44
abbrev s_read_weights : Stmt := topS 45
abbrev s_read_method : Stmt := topS 46
abbrev s_read_message : Stmt := topS 47
abbrev s_read_target : Stmt := topS 48
abbrev s_read_message_content : Stmt := topS 49
abbrev s_read_content_packets : Stmt := topS 50
abbrev s_read_packet : Stmt := topS 52
abbrev s_write_program : Stmt := topS 57
abbrev s_write_values : Stmt := topS 58
abbrev s_write_references : Stmt := topS 59
abbrev s_write_content_journal : Stmt := topS 60
abbrev s_write_entry : Stmt := topS 62
abbrev s_read_program : Stmt := topS 63
abbrev s_read_values : Stmt := topS 64
abbrev s_read_content_journal : Stmt := topS 65
abbrev s_read_entry : Stmt := topS 67
abbrev s_next_size : Stmt := topS 68
abbrev s_read_journal : Stmt := topS 69
abbrev s__law_cell : Stmt := topS 71
abbrev s__law_digits : Stmt := topS 72
abbrev s__law_draw : Stmt := topS 73
abbrev s__law_same : Stmt := topS 74
abbrev s__law_signs : Stmt := topS 75
abbrev s__law_count : Stmt := topS 76
abbrev s__law_written_text : Stmt := topS 77
abbrev s__law_written_program : Stmt := topS 78
abbrev s__law_written_reference : Stmt := topS 79
abbrev s__law_written_atom : Stmt := topS 80
abbrev s__law_row : Stmt := topS 81
abbrev s__law_written_value : Stmt := topS 82
abbrev s__law_written_values : Stmt := topS 83
abbrev s__law_integer : Stmt := topS 84
abbrev s__law_string : Stmt := topS 85
abbrev s__law_atom : Stmt := topS 86
abbrev s__law_value : Stmt := topS 87
abbrev s__law_atoms : Stmt := topS 88
abbrev s__law_distinct : Stmt := topS 89
abbrev s__law_number : Stmt := topS 90
abbrev s__law_weight : Stmt := topS 91
abbrev s__law_shares_of : Stmt := topS 92
abbrev s__law_send : Stmt := topS 93
abbrev s__law_message : Stmt := topS 94
abbrev s__law_drawn_content : Stmt := topS 95
abbrev s__law_written_weight : Stmt := topS 96
abbrev s__law_shares : Stmt := topS 97
abbrev s__law_written_send : Stmt := topS 98
abbrev s__law_written_message : Stmt := topS 99
abbrev s__law_written_target : Stmt := topS 100
abbrev s__law_written_content : Stmt := topS 101
abbrev s__law_written_packet : Stmt := topS 102
abbrev s__law_content : Stmt := topS 103
abbrev s__law_written : Stmt := topS 104
abbrev s__law_reference : Stmt := topS 105
abbrev s__law_name : Stmt := topS 106
abbrev s__law_program : Stmt := topS 107
abbrev s__law_entry : Stmt := topS 108
abbrev s_law : Stmt := topS 109
theorem sc_is_reference : FnScope ["value"] ["value"] (defScope s_is_reference) := ⟨rfl, rfl, rfl, by decide +kernel, rfl, by decide +kernel, by decide +kernel⟩
theorem bw_is_reference : BindW "is_reference" "is_reference" s_is_reference ["value"] := fun _ _ _ _ _ _ us hl => match us, hl with | [_], _ => rfl
theorem sc_atoms : FnScope ["value"] ["value"] (defScope s_atoms) := ⟨rfl, rfl, rfl, by decide +kernel, rfl, by decide +kernel, by decide +kernel⟩
theorem bw_atoms : BindW "atoms" "atoms" s_atoms ["value"] := fun _ _ _ _ _ _ us hl => match us, hl with | [_], _ => rfl
theorem sc_references : FnScope ["value", "atom"] ["value"] (defScope s_references) := ⟨rfl, rfl, rfl, by decide +kernel, rfl, by decide +kernel, by decide +kernel⟩
theorem bw_references : BindW "references" "references" s_references ["value"] := fun _ _ _ _ _ _ us hl => match us, hl with | [_], _ => rfl
theorem sc_distinct : FnScope ["values", "found", "value", "reference"] ["values"] (defScope s_distinct) := ⟨rfl, rfl, rfl, by decide +kernel, rfl, by decide +kernel, by decide +kernel⟩
theorem bw_distinct : BindW "distinct" "distinct" s_distinct ["values"] := fun _ _ _ _ _ _ us hl => match us, hl with | [_], _ => rfl
theorem sc_write_count : FnScope ["number", "digits"] ["number"] (defScope s_write_count) := ⟨rfl, rfl, rfl, by decide +kernel, rfl, by decide +kernel, by decide +kernel⟩
theorem bw_write_count : BindW "write_count" "write_count" s_write_count ["number"] := fun _ _ _ _ _ _ us hl => match us, hl with | [_], _ => rfl
theorem sc_write_text : FnScope ["text", "numbers", "sign"] ["text"] (defScope s_write_text) := ⟨rfl, rfl, rfl, by decide +kernel, rfl, by decide +kernel, by decide +kernel⟩
theorem bw_write_text : BindW "write_text" "write_text" s_write_text ["text"] := fun _ _ _ _ _ _ us hl => match us, hl with | [_], _ => rfl
theorem sc_write_weight : FnScope ["weight"] ["weight"] (defScope s_write_weight) := ⟨rfl, rfl, rfl, by decide +kernel, rfl, by decide +kernel, by decide +kernel⟩
theorem bw_write_weight : BindW "write_weight" "write_weight" s_write_weight ["weight"] := fun _ _ _ _ _ _ us hl => match us, hl with | [_], _ => rfl
theorem sc_write_reference : FnScope ["reference"] ["reference"] (defScope s_write_reference) := ⟨rfl, rfl, rfl, by decide +kernel, rfl, by decide +kernel, by decide +kernel⟩
theorem bw_write_reference : BindW "write_reference" "write_reference" s_write_reference ["reference"] := fun _ _ _ _ _ _ us hl => match us, hl with | [_], _ => rfl
theorem sc_write_atom : FnScope ["atom"] ["atom"] (defScope s_write_atom) := ⟨rfl, rfl, rfl, by decide +kernel, rfl, by decide +kernel, by decide +kernel⟩
theorem bw_write_atom : BindW "write_atom" "write_atom" s_write_atom ["atom"] := fun _ _ _ _ _ _ us hl => match us, hl with | [_], _ => rfl
theorem sc_write_value : FnScope ["value", "numbers", "atom"] ["value"] (defScope s_write_value) := ⟨rfl, rfl, rfl, by decide +kernel, rfl, by decide +kernel, by decide +kernel⟩
theorem bw_write_value : BindW "write_value" "write_value" s_write_value ["value"] := fun _ _ _ _ _ _ us hl => match us, hl with | [_], _ => rfl
theorem sc_Reading___init__ : FnScope ["self", "numbers"] ["self", "numbers"] (defScope s_Reading___init__) := ⟨rfl, rfl, rfl, by decide +kernel, rfl, by decide +kernel, by decide +kernel⟩
theorem bw_Reading___init__ : BindW "__init__" "Reading.__init__" s_Reading___init__ ["self", "numbers"] := fun _ _ _ _ _ _ us hl => match us, hl with | [_, _], _ => rfl
theorem sc_Reading_digits : FnScope ["self", "most", "total", "unit", "done", "digit"] ["self", "most"] (defScope s_Reading_digits) := ⟨rfl, rfl, rfl, by decide +kernel, rfl, by decide +kernel, by decide +kernel⟩
theorem bw_Reading_digits : BindW "digits" "Reading.digits" s_Reading_digits ["self", "most"] := fun _ _ _ _ _ _ us hl => match us, hl with | [_, _], _ => rfl
theorem sc_Reading_count : FnScope ["self", "least", "most", "number"] ["self", "least", "most"] (defScope s_Reading_count) := ⟨rfl, rfl, rfl, by decide +kernel, rfl, by decide +kernel, by decide +kernel⟩
theorem bw_Reading_count : BindW "count" "Reading.count" s_Reading_count ["self", "least", "most"] := fun _ _ _ _ _ _ us hl => match us, hl with | [_, _, _], _ => rfl
theorem sc_Reading_big : FnScope ["self"] ["self"] (defScope s_Reading_big) := ⟨rfl, rfl, rfl, by decide +kernel, rfl, by decide +kernel, by decide +kernel⟩
theorem bw_Reading_big : BindW "big" "Reading.big" s_Reading_big ["self"] := fun _ _ _ _ _ _ us hl => match us, hl with | [_], _ => rfl
theorem sc_Reading_text : FnScope ["self", "most", "size", "_"] ["self", "most"] (defScope s_Reading_text) := ⟨rfl, rfl, rfl, by decide +kernel, rfl, by decide +kernel, by decide +kernel⟩
theorem bw_Reading_text : BindW "text" "Reading.text" s_Reading_text ["self", "most"] := fun _ _ _ _ _ _ us hl => match us, hl with | [_, _], _ => rfl
theorem sc_Reading_weight : FnScope ["self", "numerator", "exponent"] ["self"] (defScope s_Reading_weight) := ⟨rfl, rfl, rfl, by decide +kernel, rfl, by decide +kernel, by decide +kernel⟩
theorem bw_Reading_weight : BindW "weight" "Reading.weight" s_Reading_weight ["self"] := fun _ _ _ _ _ _ us hl => match us, hl with | [_], _ => rfl
theorem sc_Reading_reference : FnScope ["self", "kind", "vat"] ["self"] (defScope s_Reading_reference) := ⟨rfl, rfl, rfl, by decide +kernel, rfl, by decide +kernel, by decide +kernel⟩
theorem bw_Reading_reference : BindW "reference" "Reading.reference" s_Reading_reference ["self"] := fun _ _ _ _ _ _ us hl => match us, hl with | [_], _ => rfl
theorem sc_Reading_atom : FnScope ["self", "kind", "number"] ["self"] (defScope s_Reading_atom) := ⟨rfl, rfl, rfl, by decide +kernel, rfl, by decide +kernel, by decide +kernel⟩
theorem bw_Reading_atom : BindW "atom" "Reading.atom" s_Reading_atom ["self"] := fun _ _ _ _ _ _ us hl => match us, hl with | [_], _ => rfl
theorem sc_Reading_value : FnScope ["self", "size", "_"] ["self"] (defScope s_Reading_value) := ⟨rfl, rfl, rfl, by decide +kernel, rfl, by decide +kernel, by decide +kernel⟩
theorem bw_Reading_value : BindW "value" "Reading.value" s_Reading_value ["self"] := fun _ _ _ _ _ _ us hl => match us, hl with | [_], _ => rfl
theorem sc_write_send : FnScope ["send"] ["send"] (defScope s_write_send) := ⟨rfl, rfl, rfl, by decide +kernel, rfl, by decide +kernel, by decide +kernel⟩
theorem bw_write_send : BindW "write_send" "write_send" s_write_send ["send"] := fun _ _ _ _ _ _ us hl => match us, hl with | [_], _ => rfl
theorem sc_write_weights : FnScope ["weights", "numbers", "weight"] ["weights"] (defScope s_write_weights) := ⟨rfl, rfl, rfl, by decide +kernel, rfl, by decide +kernel, by decide +kernel⟩
theorem bw_write_weights : BindW "write_weights" "write_weights" s_write_weights ["weights"] := fun _ _ _ _ _ _ us hl => match us, hl with | [_], _ => rfl
theorem sc_write_message : FnScope ["message", "send", "target", "place", "method", "arguments", "path", "numbers", "value", "passed"] ["message"] (defScope s_write_message) := ⟨rfl, rfl, rfl, by decide +kernel, rfl, by decide +kernel, by decide +kernel⟩
theorem bw_write_message : BindW "write_message" "write_message" s_write_message ["message"] := fun _ _ _ _ _ _ us hl => match us, hl with | [_], _ => rfl
theorem sc_write_target : FnScope ["target", "numbers", "number"] ["target"] (defScope s_write_target) := ⟨rfl, rfl, rfl, by decide +kernel, rfl, by decide +kernel, by decide +kernel⟩
theorem bw_write_target : BindW "write_target" "write_target" s_write_target ["target"] := fun _ _ _ _ _ _ us hl => match us, hl with | [_], _ => rfl
theorem sc_write_content_packets : FnScope ["content", "kind", "_", "message", "target", "weight", "question", "shares", "numbers"] ["content"] (defScope s_write_content_packets) := ⟨rfl, rfl, rfl, by decide +kernel, rfl, by decide +kernel, by decide +kernel⟩
theorem bw_write_content_packets : BindW "write_content" "write_content" s_write_content_packets ["content"] := fun _ _ _ _ _ _ us hl => match us, hl with | [_], _ => rfl
theorem sc_write_packet : FnScope ["packet", "sender", "receiver", "number", "content", "head"] ["packet"] (defScope s_write_packet) := ⟨rfl, rfl, rfl, by decide +kernel, rfl, by decide +kernel, by decide +kernel⟩
theorem bw_write_packet : BindW "write_packet" "write_packet" s_write_packet ["packet"] := fun _ _ _ _ _ _ us hl => match us, hl with | [_], _ => rfl
theorem sc_read_send : FnScope ["reading", "vat"] ["reading"] (defScope s_read_send) := ⟨rfl, rfl, rfl, by decide +kernel, rfl, by decide +kernel, by decide +kernel⟩
theorem bw_read_send : BindW "read_send" "read_send" s_read_send ["reading"] := fun _ _ _ _ _ _ us hl => match us, hl with | [_], _ => rfl
theorem sc_read_weights : FnScope ["reading", "values", "size", "_"] ["reading", "values"] (defScope s_read_weights) := ⟨rfl, rfl, rfl, by decide +kernel, rfl, by decide +kernel, by decide +kernel⟩
theorem bw_read_weights : BindW "read_weights" "read_weights" s_read_weights ["reading", "values"] := fun _ _ _ _ _ _ us hl => match us, hl with | [_, _], _ => rfl
theorem sc_read_method : FnScope ["reading", "name", "_", "sign"] ["reading"] (defScope s_read_method) := ⟨rfl, rfl, rfl, by decide +kernel, rfl, by decide +kernel, by decide +kernel⟩
theorem bw_read_method : BindW "read_method" "read_method" s_read_method ["reading"] := fun _ _ _ _ _ _ us hl => match us, hl with | [_], _ => rfl
theorem sc_read_message : FnScope ["reading", "send", "target", "place", "method", "arguments", "_", "path"] ["reading"] (defScope s_read_message) := ⟨rfl, rfl, rfl, by decide +kernel, rfl, by decide +kernel, by decide +kernel⟩
theorem bw_read_message : BindW "read_message" "read_message" s_read_message ["reading"] := fun _ _ _ _ _ _ us hl => match us, hl with | [_], _ => rfl
theorem sc_read_target : FnScope ["reading", "kind", "vat"] ["reading"] (defScope s_read_target) := ⟨rfl, rfl, rfl, by decide +kernel, rfl, by decide +kernel, by decide +kernel⟩
theorem bw_read_target : BindW "read_target" "read_target" s_read_target ["reading"] := fun _ _ _ _ _ _ us hl => match us, hl with | [_], _ => rfl
theorem sc_read_message_content : FnScope ["reading", "message", "target", "weight", "question"] ["reading"] (defScope s_read_message_content) := ⟨rfl, rfl, rfl, by decide +kernel, rfl, by decide +kernel, by decide +kernel⟩
theorem bw_read_message_content : BindW "read_message_content" "read_message_content" s_read_message_content ["reading"] := fun _ _ _ _ _ _ us hl => match us, hl with | [_], _ => rfl
theorem sc_read_content_packets : FnScope ["reading", "kind", "reference", "value", "number"] ["reading", "kind"] (defScope s_read_content_packets) := ⟨rfl, rfl, rfl, by decide +kernel, rfl, by decide +kernel, by decide +kernel⟩
theorem bw_read_content_packets : BindW "read_content" "read_content" s_read_content_packets ["reading", "kind"] := fun _ _ _ _ _ _ us hl => match us, hl with | [_, _], _ => rfl
theorem sc_read_packet : FnScope ["numbers", "reading", "sender", "receiver", "number", "content"] ["numbers"] (defScope s_read_packet) := ⟨rfl, rfl, rfl, by decide +kernel, rfl, by decide +kernel, by decide +kernel⟩
theorem bw_read_packet : BindW "read_packet" "read_packet" s_read_packet ["numbers"] := fun _ _ _ _ _ _ us hl => match us, hl with | [_], _ => rfl
theorem sc_write_program : FnScope ["text", "numbers", "sign"] ["text"] (defScope s_write_program) := ⟨rfl, rfl, rfl, by decide +kernel, rfl, by decide +kernel, by decide +kernel⟩
theorem bw_write_program : BindW "write_program" "write_program" s_write_program ["text"] := fun _ _ _ _ _ _ us hl => match us, hl with | [_], _ => rfl
theorem sc_write_values : FnScope ["values", "numbers", "value"] ["values"] (defScope s_write_values) := ⟨rfl, rfl, rfl, by decide +kernel, rfl, by decide +kernel, by decide +kernel⟩
theorem bw_write_values : BindW "write_values" "write_values" s_write_values ["values"] := fun _ _ _ _ _ _ us hl => match us, hl with | [_], _ => rfl
theorem sc_write_references : FnScope ["row", "numbers", "reference"] ["row"] (defScope s_write_references) := ⟨rfl, rfl, rfl, by decide +kernel, rfl, by decide +kernel, by decide +kernel⟩
theorem bw_write_references : BindW "write_references" "write_references" s_write_references ["row"] := fun _ _ _ _ _ _ us hl => match us, hl with | [_], _ => rfl
theorem sc_write_content_journal : FnScope ["entry", "kind"] ["entry"] (defScope s_write_content_journal) := ⟨rfl, rfl, rfl, by decide +kernel, rfl, by decide +kernel, by decide +kernel⟩
theorem bw_write_content_journal : BindW "write_content" "write_content" s_write_content_journal ["entry"] := fun _ _ _ _ _ _ us hl => match us, hl with | [_], _ => rfl
theorem sc_write_entry : FnScope ["entry", "content"] ["entry"] (defScope s_write_entry) := ⟨rfl, rfl, rfl, by decide +kernel, rfl, by decide +kernel, by decide +kernel⟩
theorem bw_write_entry : BindW "write_entry" "write_entry" s_write_entry ["entry"] := fun _ _ _ _ _ _ us hl => match us, hl with | [_], _ => rfl
theorem sc_read_program : FnScope ["reading", "size", "signs", "_"] ["reading"] (defScope s_read_program) := ⟨rfl, rfl, rfl, by decide +kernel, rfl, by decide +kernel, by decide +kernel⟩
theorem bw_read_program : BindW "read_program" "read_program" s_read_program ["reading"] := fun _ _ _ _ _ _ us hl => match us, hl with | [_], _ => rfl
theorem sc_read_values : FnScope ["reading", "most", "size", "_"] ["reading", "most"] (defScope s_read_values) := ⟨rfl, rfl, rfl, by decide +kernel, rfl, by decide +kernel, by decide +kernel⟩
theorem bw_read_values : BindW "read_values" "read_values" s_read_values ["reading", "most"] := fun _ _ _ _ _ _ us hl => match us, hl with | [_, _], _ => rfl
theorem sc_read_content_journal : FnScope ["reading", "kind", "vat", "name", "target", "method", "receiver", "size", "_"] ["reading", "kind"] (defScope s_read_content_journal) := ⟨rfl, rfl, rfl, by decide +kernel, rfl, by decide +kernel, by decide +kernel⟩
theorem bw_read_content_journal : BindW "read_content" "read_content" s_read_content_journal ["reading", "kind"] := fun _ _ _ _ _ _ us hl => match us, hl with | [_, _], _ => rfl
theorem sc_read_entry : FnScope ["numbers", "reading", "kind", "entry"] ["numbers"] (defScope s_read_entry) := ⟨rfl, rfl, rfl, by decide +kernel, rfl, by decide +kernel, by decide +kernel⟩
theorem bw_read_entry : BindW "read_entry" "read_entry" s_read_entry ["numbers"] := fun _ _ _ _ _ _ us hl => match us, hl with | [_], _ => rfl
theorem sc_next_size : FnScope ["numbers", "place", "reading", "size", "error"] ["numbers", "place"] (defScope s_next_size) := ⟨rfl, rfl, rfl, by decide +kernel, rfl, by decide +kernel, by decide +kernel⟩
theorem bw_next_size : BindW "next_size" "next_size" s_next_size ["numbers", "place"] := fun _ _ _ _ _ _ us hl => match us, hl with | [_, _], _ => rfl
theorem sc_read_journal : FnScope ["numbers", "found", "place", "row", "behind", "entry"] ["numbers"] (defScope s_read_journal) := ⟨rfl, rfl, rfl, by decide +kernel, rfl, by decide +kernel, by decide +kernel⟩
theorem bw_read_journal : BindW "read_journal" "read_journal" s_read_journal ["numbers"] := fun _ _ _ _ _ _ us hl => match us, hl with | [_], _ => rfl
theorem sc__law_cell : FnScope ["script", "k"] ["script", "k"] (defScope s__law_cell) := ⟨rfl, rfl, rfl, by decide +kernel, rfl, by decide +kernel, by decide +kernel⟩
theorem bw__law_cell : BindW "_law_cell" "_law_cell" s__law_cell ["script", "k"] := fun _ _ _ _ _ _ us hl => match us, hl with | [_, _], _ => rfl
theorem sc__law_digits : FnScope ["script", "first", "last", "digits", "k", "cell", "place", "seed"] ["script", "first", "last"] (defScope s__law_digits) := ⟨rfl, rfl, rfl, by decide +kernel, rfl, by decide +kernel, by decide +kernel⟩
theorem bw__law_digits : BindW "_law_digits" "_law_digits" s__law_digits ["script", "first", "last"] := fun _ _ _ _ _ _ us hl => match us, hl with | [_, _, _], _ => rfl
theorem sc__law_draw : FnScope ["box", "many", "at"] ["box", "many"] (defScope s__law_draw) := ⟨rfl, rfl, rfl, by decide +kernel, rfl, by decide +kernel, by decide +kernel⟩
theorem bw__law_draw : BindW "_law_draw" "_law_draw" s__law_draw ["box", "many"] := fun _ _ _ _ _ _ us hl => match us, hl with | [_, _], _ => rfl
theorem sc__law_same : FnScope ["actual", "due"] ["actual", "due"] (defScope s__law_same) := ⟨rfl, rfl, rfl, by decide +kernel, rfl, by decide +kernel, by decide +kernel⟩
theorem bw__law_same : BindW "_law_same" "_law_same" s__law_same ["actual", "due"] := fun _ _ _ _ _ _ us hl => match us, hl with | [_, _], _ => rfl
theorem sc__law_signs : FnScope [] [] (defScope s__law_signs) := ⟨rfl, rfl, rfl, by decide +kernel, rfl, by decide +kernel, by decide +kernel⟩
theorem bw__law_signs : BindW "_law_signs" "_law_signs" s__law_signs [] := fun _ _ _ _ _ _ us hl => match us, hl with | [], _ => rfl
theorem sc__law_count : FnScope ["number", "digits", "k"] ["number"] (defScope s__law_count) := ⟨rfl, rfl, rfl, by decide +kernel, rfl, by decide +kernel, by decide +kernel⟩
theorem bw__law_count : BindW "_law_count" "_law_count" s__law_count ["number"] := fun _ _ _ _ _ _ us hl => match us, hl with | [_], _ => rfl
theorem sc__law_written_text : FnScope ["text", "signs", "sign"] ["text"] (defScope s__law_written_text) := ⟨rfl, rfl, rfl, by decide +kernel, rfl, by decide +kernel, by decide +kernel⟩
theorem bw__law_written_text : BindW "_law_written_text" "_law_written_text" s__law_written_text ["text"] := fun _ _ _ _ _ _ us hl => match us, hl with | [_], _ => rfl
theorem sc__law_written_program : FnScope ["text", "signs", "sign"] ["text"] (defScope s__law_written_program) := ⟨rfl, rfl, rfl, by decide +kernel, rfl, by decide +kernel, by decide +kernel⟩
theorem bw__law_written_program : BindW "_law_written_program" "_law_written_program" s__law_written_program ["text"] := fun _ _ _ _ _ _ us hl => match us, hl with | [_], _ => rfl
theorem sc__law_written_reference : FnScope ["value"] ["value"] (defScope s__law_written_reference) := ⟨rfl, rfl, rfl, by decide +kernel, rfl, by decide +kernel, by decide +kernel⟩
theorem bw__law_written_reference : BindW "_law_written_reference" "_law_written_reference" s__law_written_reference ["value"] := fun _ _ _ _ _ _ us hl => match us, hl with | [_], _ => rfl
theorem sc__law_written_atom : FnScope ["atom", "number"] ["atom"] (defScope s__law_written_atom) := ⟨rfl, rfl, rfl, by decide +kernel, rfl, by decide +kernel, by decide +kernel⟩
theorem bw__law_written_atom : BindW "_law_written_atom" "_law_written_atom" s__law_written_atom ["atom"] := fun _ _ _ _ _ _ us hl => match us, hl with | [_], _ => rfl
theorem sc__law_row : FnScope ["rows", "numbers", "row"] ["rows"] (defScope s__law_row) := ⟨rfl, rfl, rfl, by decide +kernel, rfl, by decide +kernel, by decide +kernel⟩
theorem bw__law_row : BindW "_law_row" "_law_row" s__law_row ["rows"] := fun _ _ _ _ _ _ us hl => match us, hl with | [_], _ => rfl
theorem sc__law_written_value : FnScope ["value", "atom"] ["value"] (defScope s__law_written_value) := ⟨rfl, rfl, rfl, by decide +kernel, rfl, by decide +kernel, by decide +kernel⟩
theorem bw__law_written_value : BindW "_law_written_value" "_law_written_value" s__law_written_value ["value"] := fun _ _ _ _ _ _ us hl => match us, hl with | [_], _ => rfl
theorem sc__law_written_values : FnScope ["values", "value"] ["values"] (defScope s__law_written_values) := ⟨rfl, rfl, rfl, by decide +kernel, rfl, by decide +kernel, by decide +kernel⟩
theorem bw__law_written_values : BindW "_law_written_values" "_law_written_values" s__law_written_values ["values"] := fun _ _ _ _ _ _ us hl => match us, hl with | [_], _ => rfl
theorem sc__law_integer : FnScope ["box", "kind", "number"] ["box"] (defScope s__law_integer) := ⟨rfl, rfl, rfl, by decide +kernel, rfl, by decide +kernel, by decide +kernel⟩
theorem bw__law_integer : BindW "_law_integer" "_law_integer" s__law_integer ["box"] := fun _ _ _ _ _ _ us hl => match us, hl with | [_], _ => rfl
theorem sc__law_string : FnScope ["box", "most", "signs", "size", "k"] ["box", "most"] (defScope s__law_string) := ⟨rfl, rfl, rfl, by decide +kernel, rfl, by decide +kernel, by decide +kernel⟩
theorem bw__law_string : BindW "_law_string" "_law_string" s__law_string ["box", "most"] := fun _ _ _ _ _ _ us hl => match us, hl with | [_, _], _ => rfl
theorem sc__law_atom : FnScope ["box", "kind"] ["box"] (defScope s__law_atom) := ⟨rfl, rfl, rfl, by decide +kernel, rfl, by decide +kernel, by decide +kernel⟩
theorem bw__law_atom : BindW "_law_atom" "_law_atom" s__law_atom ["box"] := fun _ _ _ _ _ _ us hl => match us, hl with | [_], _ => rfl
theorem sc__law_value : FnScope ["box", "k"] ["box"] (defScope s__law_value) := ⟨rfl, rfl, rfl, by decide +kernel, rfl, by decide +kernel, by decide +kernel⟩
theorem bw__law_value : BindW "_law_value" "_law_value" s__law_value ["box"] := fun _ _ _ _ _ _ us hl => match us, hl with | [_], _ => rfl
theorem sc__law_atoms : FnScope ["value"] ["value"] (defScope s__law_atoms) := ⟨rfl, rfl, rfl, by decide +kernel, rfl, by decide +kernel, by decide +kernel⟩
theorem bw__law_atoms : BindW "_law_atoms" "_law_atoms" s__law_atoms ["value"] := fun _ _ _ _ _ _ us hl => match us, hl with | [_], _ => rfl
theorem sc__law_distinct : FnScope ["values", "found", "value", "atom"] ["values"] (defScope s__law_distinct) := ⟨rfl, rfl, rfl, by decide +kernel, rfl, by decide +kernel, by decide +kernel⟩
theorem bw__law_distinct : BindW "_law_distinct" "_law_distinct" s__law_distinct ["values"] := fun _ _ _ _ _ _ us hl => match us, hl with | [_], _ => rfl
theorem sc__law_number : FnScope ["box", "kind"] ["box"] (defScope s__law_number) := ⟨rfl, rfl, rfl, by decide +kernel, rfl, by decide +kernel, by decide +kernel⟩
theorem bw__law_number : BindW "_law_number" "_law_number" s__law_number ["box"] := fun _ _ _ _ _ _ us hl => match us, hl with | [_], _ => rfl
theorem sc__law_weight : FnScope ["box", "exponent", "numerator", "k"] ["box"] (defScope s__law_weight) := ⟨rfl, rfl, rfl, by decide +kernel, rfl, by decide +kernel, by decide +kernel⟩
theorem bw__law_weight : BindW "_law_weight" "_law_weight" s__law_weight ["box"] := fun _ _ _ _ _ _ us hl => match us, hl with | [_], _ => rfl
theorem sc__law_shares_of : FnScope ["box", "values", "atom"] ["box", "values"] (defScope s__law_shares_of) := ⟨rfl, rfl, rfl, by decide +kernel, rfl, by decide +kernel, by decide +kernel⟩
theorem bw__law_shares_of : BindW "_law_shares_of" "_law_shares_of" s__law_shares_of ["box", "values"] := fun _ _ _ _ _ _ us hl => match us, hl with | [_, _], _ => rfl
theorem sc__law_send : FnScope ["box"] ["box"] (defScope s__law_send) := ⟨rfl, rfl, rfl, by decide +kernel, rfl, by decide +kernel, by decide +kernel⟩
theorem bw__law_send : BindW "_law_send" "_law_send" s__law_send ["box"] := fun _ _ _ _ _ _ us hl => match us, hl with | [_], _ => rfl
theorem sc__law_message : FnScope ["box", "arguments", "k", "method", "path"] ["box"] (defScope s__law_message) := ⟨rfl, rfl, rfl, by decide +kernel, rfl, by decide +kernel, by decide +kernel⟩
theorem bw__law_message : BindW "_law_message" "_law_message" s__law_message ["box"] := fun _ _ _ _ _ _ us hl => match us, hl with | [_], _ => rfl
theorem sc__law_drawn_content : FnScope ["box", "kind", "value", "fault", "message", "target", "question"] ["box"] (defScope s__law_drawn_content) := ⟨rfl, rfl, rfl, by decide +kernel, rfl, by decide +kernel, by decide +kernel⟩
theorem bw__law_drawn_content : BindW "_law_drawn_content" "_law_drawn_content" s__law_drawn_content ["box"] := fun _ _ _ _ _ _ us hl => match us, hl with | [_], _ => rfl
theorem sc__law_written_weight : FnScope ["weight"] ["weight"] (defScope s__law_written_weight) := ⟨rfl, rfl, rfl, by decide +kernel, rfl, by decide +kernel, by decide +kernel⟩
theorem bw__law_written_weight : BindW "_law_written_weight" "_law_written_weight" s__law_written_weight ["weight"] := fun _ _ _ _ _ _ us hl => match us, hl with | [_], _ => rfl
theorem sc__law_shares : FnScope ["shares", "share"] ["shares"] (defScope s__law_shares) := ⟨rfl, rfl, rfl, by decide +kernel, rfl, by decide +kernel, by decide +kernel⟩
theorem bw__law_shares : BindW "_law_shares" "_law_shares" s__law_shares ["shares"] := fun _ _ _ _ _ _ us hl => match us, hl with | [_], _ => rfl
theorem sc__law_written_send : FnScope ["send"] ["send"] (defScope s__law_written_send) := ⟨rfl, rfl, rfl, by decide +kernel, rfl, by decide +kernel, by decide +kernel⟩
theorem bw__law_written_send : BindW "_law_written_send" "_law_written_send" s__law_written_send ["send"] := fun _ _ _ _ _ _ us hl => match us, hl with | [_], _ => rfl
theorem sc__law_written_message : FnScope ["message", "numbers", "value", "send"] ["message"] (defScope s__law_written_message) := ⟨rfl, rfl, rfl, by decide +kernel, rfl, by decide +kernel, by decide +kernel⟩
theorem bw__law_written_message : BindW "_law_written_message" "_law_written_message" s__law_written_message ["message"] := fun _ _ _ _ _ _ us hl => match us, hl with | [_], _ => rfl
theorem sc__law_written_target : FnScope ["target"] ["target"] (defScope s__law_written_target) := ⟨rfl, rfl, rfl, by decide +kernel, rfl, by decide +kernel, by decide +kernel⟩
theorem bw__law_written_target : BindW "_law_written_target" "_law_written_target" s__law_written_target ["target"] := fun _ _ _ _ _ _ us hl => match us, hl with | [_], _ => rfl
theorem sc__law_written_content : FnScope ["content", "kind", "numbers"] ["content"] (defScope s__law_written_content) := ⟨rfl, rfl, rfl, by decide +kernel, rfl, by decide +kernel, by decide +kernel⟩
theorem bw__law_written_content : BindW "_law_written_content" "_law_written_content" s__law_written_content ["content"] := fun _ _ _ _ _ _ us hl => match us, hl with | [_], _ => rfl
theorem sc__law_written_packet : FnScope ["packet", "numbers"] ["packet"] (defScope s__law_written_packet) := ⟨rfl, rfl, rfl, by decide +kernel, rfl, by decide +kernel, by decide +kernel⟩
theorem bw__law_written_packet : BindW "_law_written_packet" "_law_written_packet" s__law_written_packet ["packet"] := fun _ _ _ _ _ _ us hl => match us, hl with | [_], _ => rfl
theorem sc__law_content : FnScope ["entry", "kind", "one"] ["entry"] (defScope s__law_content) := ⟨rfl, rfl, rfl, by decide +kernel, rfl, by decide +kernel, by decide +kernel⟩
theorem bw__law_content : BindW "_law_content" "_law_content" s__law_content ["entry"] := fun _ _ _ _ _ _ us hl => match us, hl with | [_], _ => rfl
theorem sc__law_written : FnScope ["entry", "numbers"] ["entry"] (defScope s__law_written) := ⟨rfl, rfl, rfl, by decide +kernel, rfl, by decide +kernel, by decide +kernel⟩
theorem bw__law_written : BindW "_law_written" "_law_written" s__law_written ["entry"] := fun _ _ _ _ _ _ us hl => match us, hl with | [_], _ => rfl
theorem sc__law_reference : FnScope ["box"] ["box"] (defScope s__law_reference) := ⟨rfl, rfl, rfl, by decide +kernel, rfl, by decide +kernel, by decide +kernel⟩
theorem bw__law_reference : BindW "_law_reference" "_law_reference" s__law_reference ["box"] := fun _ _ _ _ _ _ us hl => match us, hl with | [_], _ => rfl
theorem sc__law_name : FnScope ["box", "letters", "k"] ["box"] (defScope s__law_name) := ⟨rfl, rfl, rfl, by decide +kernel, rfl, by decide +kernel, by decide +kernel⟩
theorem bw__law_name : BindW "_law_name" "_law_name" s__law_name ["box"] := fun _ _ _ _ _ _ us hl => match us, hl with | [_], _ => rfl
theorem sc__law_program : FnScope ["box", "signs", "kind", "size", "first", "step", "lines", "k", "place"] ["box"] (defScope s__law_program) := ⟨rfl, rfl, rfl, by decide +kernel, rfl, by decide +kernel, by decide +kernel⟩
theorem bw__law_program : BindW "_law_program" "_law_program" s__law_program ["box"] := fun _ _ _ _ _ _ us hl => match us, hl with | [_], _ => rfl
theorem sc__law_entry : FnScope ["box", "kind", "k", "size"] ["box"] (defScope s__law_entry) := ⟨rfl, rfl, rfl, by decide +kernel, rfl, by decide +kernel, by decide +kernel⟩
theorem bw__law_entry : BindW "_law_entry" "_law_entry" s__law_entry ["box"] := fun _ _ _ _ _ _ us hl => match us, hl with | [_], _ => rfl
theorem sc_law : FnScope ["script", "box", "start", "first", "told", "turn", "entry", "due", "numbers", "rows"] ["script"] (defScope s_law) := ⟨rfl, rfl, rfl, by decide +kernel, rfl, by decide +kernel, by decide +kernel⟩
theorem bw_law : BindW "law" "law" s_law ["script"] := fun _ _ _ _ _ _ us hl => match us, hl with | [_], _ => rfl
/-! ### what the top leaves: the facts that the head tells -/
def d_is_reference : He.DefD := ⟨("is_reference", none), "is_reference", "is_reference", defArgs s_is_reference, defBody s_is_reference, defScope s_is_reference, [], []⟩
def d_atoms : He.DefD := ⟨("atoms", none), "atoms", "atoms", defArgs s_atoms, defBody s_atoms, defScope s_atoms, [], []⟩
def d_references : He.DefD := ⟨("references", none), "references", "references", defArgs s_references, defBody s_references, defScope s_references, [], []⟩
def d_distinct : He.DefD := ⟨("distinct", none), "distinct", "distinct", defArgs s_distinct, defBody s_distinct, defScope s_distinct, [], []⟩
def d_write_count : He.DefD := ⟨("write_count", none), "write_count", "write_count", defArgs s_write_count, defBody s_write_count, defScope s_write_count, [], []⟩
def d_write_text : He.DefD := ⟨("write_text", none), "write_text", "write_text", defArgs s_write_text, defBody s_write_text, defScope s_write_text, [], []⟩
def d_write_weight : He.DefD := ⟨("write_weight", none), "write_weight", "write_weight", defArgs s_write_weight, defBody s_write_weight, defScope s_write_weight, [], []⟩
def d_write_reference : He.DefD := ⟨("write_reference", none), "write_reference", "write_reference", defArgs s_write_reference, defBody s_write_reference, defScope s_write_reference, [], []⟩
def d_write_atom : He.DefD := ⟨("write_atom", none), "write_atom", "write_atom", defArgs s_write_atom, defBody s_write_atom, defScope s_write_atom, [], []⟩
def d_write_value : He.DefD := ⟨("write_value", none), "write_value", "write_value", defArgs s_write_value, defBody s_write_value, defScope s_write_value, [], []⟩
def d_Reading___init__ : He.DefD := ⟨("Reading", some "__init__"), "__init__", "Reading.__init__", defArgs s_Reading___init__, defBody s_Reading___init__, defScope s_Reading___init__, [], []⟩
def d_Reading_digits : He.DefD := ⟨("Reading", some "digits"), "digits", "Reading.digits", defArgs s_Reading_digits, defBody s_Reading_digits, defScope s_Reading_digits, [], []⟩
def d_Reading_count : He.DefD := ⟨("Reading", some "count"), "count", "Reading.count", defArgs s_Reading_count, defBody s_Reading_count, defScope s_Reading_count, [], []⟩
def d_Reading_big : He.DefD := ⟨("Reading", some "big"), "big", "Reading.big", defArgs s_Reading_big, defBody s_Reading_big, defScope s_Reading_big, [], []⟩
def d_Reading_text : He.DefD := ⟨("Reading", some "text"), "text", "Reading.text", defArgs s_Reading_text, defBody s_Reading_text, defScope s_Reading_text, [], []⟩
def d_Reading_weight : He.DefD := ⟨("Reading", some "weight"), "weight", "Reading.weight", defArgs s_Reading_weight, defBody s_Reading_weight, defScope s_Reading_weight, [], []⟩
def d_Reading_reference : He.DefD := ⟨("Reading", some "reference"), "reference", "Reading.reference", defArgs s_Reading_reference, defBody s_Reading_reference, defScope s_Reading_reference, [], []⟩
def d_Reading_atom : He.DefD := ⟨("Reading", some "atom"), "atom", "Reading.atom", defArgs s_Reading_atom, defBody s_Reading_atom, defScope s_Reading_atom, [], []⟩
def d_Reading_value : He.DefD := ⟨("Reading", some "value"), "value", "Reading.value", defArgs s_Reading_value, defBody s_Reading_value, defScope s_Reading_value, [], []⟩
def d_write_send : He.DefD := ⟨("write_send", none), "write_send", "write_send", defArgs s_write_send, defBody s_write_send, defScope s_write_send, [], []⟩
def d_write_weights : He.DefD := ⟨("write_weights", none), "write_weights", "write_weights", defArgs s_write_weights, defBody s_write_weights, defScope s_write_weights, [], []⟩
def d_write_message : He.DefD := ⟨("write_message", none), "write_message", "write_message", defArgs s_write_message, defBody s_write_message, defScope s_write_message, [], []⟩
def d_write_target : He.DefD := ⟨("write_target", none), "write_target", "write_target", defArgs s_write_target, defBody s_write_target, defScope s_write_target, [], []⟩
def d_write_content_packets : He.DefD := ⟨("write_content_packets", none), "write_content", "write_content", defArgs s_write_content_packets, defBody s_write_content_packets, defScope s_write_content_packets, [], []⟩
def d_write_packet : He.DefD := ⟨("write_packet", none), "write_packet", "write_packet", defArgs s_write_packet, defBody s_write_packet, defScope s_write_packet, [], []⟩
def d_read_send : He.DefD := ⟨("read_send", none), "read_send", "read_send", defArgs s_read_send, defBody s_read_send, defScope s_read_send, [], []⟩
def d_read_weights : He.DefD := ⟨("read_weights", none), "read_weights", "read_weights", defArgs s_read_weights, defBody s_read_weights, defScope s_read_weights, [], []⟩
def d_read_method : He.DefD := ⟨("read_method", none), "read_method", "read_method", defArgs s_read_method, defBody s_read_method, defScope s_read_method, [], []⟩
def d_read_message : He.DefD := ⟨("read_message", none), "read_message", "read_message", defArgs s_read_message, defBody s_read_message, defScope s_read_message, [], []⟩
def d_read_target : He.DefD := ⟨("read_target", none), "read_target", "read_target", defArgs s_read_target, defBody s_read_target, defScope s_read_target, [], []⟩
def d_read_message_content : He.DefD := ⟨("read_message_content", none), "read_message_content", "read_message_content", defArgs s_read_message_content, defBody s_read_message_content, defScope s_read_message_content, [], []⟩
def d_read_content_packets : He.DefD := ⟨("read_content_packets", none), "read_content", "read_content", defArgs s_read_content_packets, defBody s_read_content_packets, defScope s_read_content_packets, [], []⟩
def d_read_packet : He.DefD := ⟨("read_packet", none), "read_packet", "read_packet", defArgs s_read_packet, defBody s_read_packet, defScope s_read_packet, [], []⟩
def d_write_program : He.DefD := ⟨("write_program", none), "write_program", "write_program", defArgs s_write_program, defBody s_write_program, defScope s_write_program, [], []⟩
def d_write_values : He.DefD := ⟨("write_values", none), "write_values", "write_values", defArgs s_write_values, defBody s_write_values, defScope s_write_values, [], []⟩
def d_write_references : He.DefD := ⟨("write_references", none), "write_references", "write_references", defArgs s_write_references, defBody s_write_references, defScope s_write_references, [], []⟩
def d_write_content_journal : He.DefD := ⟨("write_content_journal", none), "write_content", "write_content", defArgs s_write_content_journal, defBody s_write_content_journal, defScope s_write_content_journal, [], []⟩
def d_write_entry : He.DefD := ⟨("write_entry", none), "write_entry", "write_entry", defArgs s_write_entry, defBody s_write_entry, defScope s_write_entry, [], []⟩
def d_read_program : He.DefD := ⟨("read_program", none), "read_program", "read_program", defArgs s_read_program, defBody s_read_program, defScope s_read_program, [], []⟩
def d_read_values : He.DefD := ⟨("read_values", none), "read_values", "read_values", defArgs s_read_values, defBody s_read_values, defScope s_read_values, [], []⟩
def d_read_content_journal : He.DefD := ⟨("read_content_journal", none), "read_content", "read_content", defArgs s_read_content_journal, defBody s_read_content_journal, defScope s_read_content_journal, [], []⟩
def d_read_entry : He.DefD := ⟨("read_entry", none), "read_entry", "read_entry", defArgs s_read_entry, defBody s_read_entry, defScope s_read_entry, [], []⟩
def d_next_size : He.DefD := ⟨("next_size", none), "next_size", "next_size", defArgs s_next_size, defBody s_next_size, defScope s_next_size, [], []⟩
def d_read_journal : He.DefD := ⟨("read_journal", none), "read_journal", "read_journal", defArgs s_read_journal, defBody s_read_journal, defScope s_read_journal, [], []⟩
def d__law_cell : He.DefD := ⟨("_law_cell", none), "_law_cell", "_law_cell", defArgs s__law_cell, defBody s__law_cell, defScope s__law_cell, [], []⟩
def d__law_digits : He.DefD := ⟨("_law_digits", none), "_law_digits", "_law_digits", defArgs s__law_digits, defBody s__law_digits, defScope s__law_digits, [], []⟩
def d__law_draw : He.DefD := ⟨("_law_draw", none), "_law_draw", "_law_draw", defArgs s__law_draw, defBody s__law_draw, defScope s__law_draw, [], []⟩
def d__law_same : He.DefD := ⟨("_law_same", none), "_law_same", "_law_same", defArgs s__law_same, defBody s__law_same, defScope s__law_same, [], []⟩
def d__law_signs : He.DefD := ⟨("_law_signs", none), "_law_signs", "_law_signs", defArgs s__law_signs, defBody s__law_signs, defScope s__law_signs, [], []⟩
def d__law_count : He.DefD := ⟨("_law_count", none), "_law_count", "_law_count", defArgs s__law_count, defBody s__law_count, defScope s__law_count, [], []⟩
def d__law_written_text : He.DefD := ⟨("_law_written_text", none), "_law_written_text", "_law_written_text", defArgs s__law_written_text, defBody s__law_written_text, defScope s__law_written_text, [], []⟩
def d__law_written_program : He.DefD := ⟨("_law_written_program", none), "_law_written_program", "_law_written_program", defArgs s__law_written_program, defBody s__law_written_program, defScope s__law_written_program, [], []⟩
def d__law_written_reference : He.DefD := ⟨("_law_written_reference", none), "_law_written_reference", "_law_written_reference", defArgs s__law_written_reference, defBody s__law_written_reference, defScope s__law_written_reference, [], []⟩
def d__law_written_atom : He.DefD := ⟨("_law_written_atom", none), "_law_written_atom", "_law_written_atom", defArgs s__law_written_atom, defBody s__law_written_atom, defScope s__law_written_atom, [], []⟩
def d__law_row : He.DefD := ⟨("_law_row", none), "_law_row", "_law_row", defArgs s__law_row, defBody s__law_row, defScope s__law_row, [], []⟩
def d__law_written_value : He.DefD := ⟨("_law_written_value", none), "_law_written_value", "_law_written_value", defArgs s__law_written_value, defBody s__law_written_value, defScope s__law_written_value, [], []⟩
def d__law_written_values : He.DefD := ⟨("_law_written_values", none), "_law_written_values", "_law_written_values", defArgs s__law_written_values, defBody s__law_written_values, defScope s__law_written_values, [], []⟩
def d__law_integer : He.DefD := ⟨("_law_integer", none), "_law_integer", "_law_integer", defArgs s__law_integer, defBody s__law_integer, defScope s__law_integer, [], []⟩
def d__law_string : He.DefD := ⟨("_law_string", none), "_law_string", "_law_string", defArgs s__law_string, defBody s__law_string, defScope s__law_string, [], []⟩
def d__law_atom : He.DefD := ⟨("_law_atom", none), "_law_atom", "_law_atom", defArgs s__law_atom, defBody s__law_atom, defScope s__law_atom, [], []⟩
def d__law_value : He.DefD := ⟨("_law_value", none), "_law_value", "_law_value", defArgs s__law_value, defBody s__law_value, defScope s__law_value, [], []⟩
def d__law_atoms : He.DefD := ⟨("_law_atoms", none), "_law_atoms", "_law_atoms", defArgs s__law_atoms, defBody s__law_atoms, defScope s__law_atoms, [], []⟩
def d__law_distinct : He.DefD := ⟨("_law_distinct", none), "_law_distinct", "_law_distinct", defArgs s__law_distinct, defBody s__law_distinct, defScope s__law_distinct, [], []⟩
def d__law_number : He.DefD := ⟨("_law_number", none), "_law_number", "_law_number", defArgs s__law_number, defBody s__law_number, defScope s__law_number, [], []⟩
def d__law_weight : He.DefD := ⟨("_law_weight", none), "_law_weight", "_law_weight", defArgs s__law_weight, defBody s__law_weight, defScope s__law_weight, [], []⟩
def d__law_shares_of : He.DefD := ⟨("_law_shares_of", none), "_law_shares_of", "_law_shares_of", defArgs s__law_shares_of, defBody s__law_shares_of, defScope s__law_shares_of, [], []⟩
def d__law_send : He.DefD := ⟨("_law_send", none), "_law_send", "_law_send", defArgs s__law_send, defBody s__law_send, defScope s__law_send, [], []⟩
def d__law_message : He.DefD := ⟨("_law_message", none), "_law_message", "_law_message", defArgs s__law_message, defBody s__law_message, defScope s__law_message, [], []⟩
def d__law_drawn_content : He.DefD := ⟨("_law_drawn_content", none), "_law_drawn_content", "_law_drawn_content", defArgs s__law_drawn_content, defBody s__law_drawn_content, defScope s__law_drawn_content, [], []⟩
def d__law_written_weight : He.DefD := ⟨("_law_written_weight", none), "_law_written_weight", "_law_written_weight", defArgs s__law_written_weight, defBody s__law_written_weight, defScope s__law_written_weight, [], []⟩
def d__law_shares : He.DefD := ⟨("_law_shares", none), "_law_shares", "_law_shares", defArgs s__law_shares, defBody s__law_shares, defScope s__law_shares, [], []⟩
def d__law_written_send : He.DefD := ⟨("_law_written_send", none), "_law_written_send", "_law_written_send", defArgs s__law_written_send, defBody s__law_written_send, defScope s__law_written_send, [], []⟩
def d__law_written_message : He.DefD := ⟨("_law_written_message", none), "_law_written_message", "_law_written_message", defArgs s__law_written_message, defBody s__law_written_message, defScope s__law_written_message, [], []⟩
def d__law_written_target : He.DefD := ⟨("_law_written_target", none), "_law_written_target", "_law_written_target", defArgs s__law_written_target, defBody s__law_written_target, defScope s__law_written_target, [], []⟩
def d__law_written_content : He.DefD := ⟨("_law_written_content", none), "_law_written_content", "_law_written_content", defArgs s__law_written_content, defBody s__law_written_content, defScope s__law_written_content, [], []⟩
def d__law_written_packet : He.DefD := ⟨("_law_written_packet", none), "_law_written_packet", "_law_written_packet", defArgs s__law_written_packet, defBody s__law_written_packet, defScope s__law_written_packet, [], []⟩
def d__law_content : He.DefD := ⟨("_law_content", none), "_law_content", "_law_content", defArgs s__law_content, defBody s__law_content, defScope s__law_content, [], []⟩
def d__law_written : He.DefD := ⟨("_law_written", none), "_law_written", "_law_written", defArgs s__law_written, defBody s__law_written, defScope s__law_written, [], []⟩
def d__law_reference : He.DefD := ⟨("_law_reference", none), "_law_reference", "_law_reference", defArgs s__law_reference, defBody s__law_reference, defScope s__law_reference, [], []⟩
def d__law_name : He.DefD := ⟨("_law_name", none), "_law_name", "_law_name", defArgs s__law_name, defBody s__law_name, defScope s__law_name, [], []⟩
def d__law_program : He.DefD := ⟨("_law_program", none), "_law_program", "_law_program", defArgs s__law_program, defBody s__law_program, defScope s__law_program, [], []⟩
def d__law_entry : He.DefD := ⟨("_law_entry", none), "_law_entry", "_law_entry", defArgs s__law_entry, defBody s__law_entry, defScope s__law_entry, [], []⟩
def d_law : He.DefD := ⟨("law", none), "law", "law", defArgs s_law, defBody s_law, defScope s_law, [], []⟩
abbrev s_Malformed___init__ : Stmt := inClass (topS 2) 0
def u_Malformed : SupD := ⟨"Malformed", "Malformed.__init__", defArgs s_Malformed___init__, defBody s_Malformed___init__, defScope s_Malformed___init__, PySem.Challenge.pw_vatlink_k69_entries_exact.main.file⟩
def fnl0 : List He.DefD := [d_is_reference, d_atoms, d_references, d_distinct, d_write_count, d_write_text, d_write_weight, d_write_reference, d_write_atom, d_write_value, d_Reading___init__, d_Reading_digits, d_Reading_count, d_Reading_big, d_Reading_text, d_Reading_weight, d_Reading_reference, d_Reading_atom, d_Reading_value, d_write_send, d_write_weights, d_write_message, d_write_target, d_write_content_packets]
def fnl1 : List He.DefD := [d_write_packet, d_read_send, d_read_weights, d_read_method, d_read_message, d_read_target, d_read_message_content, d_read_content_packets, d_read_packet, d_write_program, d_write_values, d_write_references, d_write_content_journal, d_write_entry, d_read_program, d_read_values, d_read_content_journal, d_read_entry, d_next_size, d_read_journal, d__law_cell, d__law_digits, d__law_draw, d__law_same]
def fnl2 : List He.DefD := [d__law_signs, d__law_count, d__law_written_text, d__law_written_program, d__law_written_reference, d__law_written_atom, d__law_row, d__law_written_value, d__law_written_values, d__law_integer, d__law_string, d__law_atom, d__law_value, d__law_atoms, d__law_distinct, d__law_number, d__law_weight, d__law_shares_of, d__law_send, d__law_message, d__law_drawn_content, d__law_written_weight, d__law_shares, d__law_written_send]
def fnl3 : List He.DefD := [d__law_written_message, d__law_written_target, d__law_written_content, d__law_written_packet, d__law_content, d__law_written, d__law_reference, d__law_name, d__law_program, d__law_entry, d_law]
def fnl : List He.DefD := fnl0 ++ (fnl1 ++ (fnl2 ++ (fnl3)))
def fal0 : List He.Fa := [.glo "is_reference", .glo "atoms", .glo "references", .glo "distinct", .glo "write_count", .glo "write_text", .glo "write_weight", .glo "write_reference", .glo "write_atom", .glo "write_value", .glo "write_send", .glo "write_weights", .glo "write_message", .glo "write_target", .glo "write_content_packets", .glo "write_packet", .glo "read_send", .glo "read_weights", .glo "read_method", .glo "read_message", .glo "read_target", .glo "read_message_content", .glo "read_content_packets", .glo "read_packet"]
def fal1 : List He.Fa := [.glo "write_program", .glo "write_values", .glo "write_references", .glo "write_content_journal", .glo "write_entry", .glo "read_program", .glo "read_values", .glo "read_content_journal", .glo "read_entry", .glo "next_size", .glo "read_journal", .glo "_law_cell", .glo "_law_digits", .glo "_law_draw", .glo "_law_same", .glo "_law_signs", .glo "_law_count", .glo "_law_written_text", .glo "_law_written_program", .glo "_law_written_reference", .glo "_law_written_atom", .glo "_law_row", .glo "_law_written_value", .glo "_law_written_values"]
def fal2 : List He.Fa := [.glo "_law_integer", .glo "_law_string", .glo "_law_atom", .glo "_law_value", .glo "_law_atoms", .glo "_law_distinct", .glo "_law_number", .glo "_law_weight", .glo "_law_shares_of", .glo "_law_send", .glo "_law_message", .glo "_law_drawn_content", .glo "_law_written_weight", .glo "_law_shares", .glo "_law_written_send", .glo "_law_written_message", .glo "_law_written_target", .glo "_law_written_content", .glo "_law_written_packet", .glo "_law_content", .glo "_law_written", .glo "_law_reference", .glo "_law_name", .glo "_law_program"]
def fal3 : List He.Fa := [.glo "_law_entry", .glo "law", .glo "Reading", .cls "Reading", .mkr "Reading", .noat "Reading" "numbers", .noat "Reading" "at", .meth "Reading" "digits", .meth "Reading" "count", .meth "Reading" "big", .meth "Reading" "text", .meth "Reading" "weight", .meth "Reading" "reference", .meth "Reading" "atom", .meth "Reading" "value", .glo "Malformed", .noat "Malformed" "place", .glo "BadJournal", .glo "VatError", .str "CHARACTERS" " !\"#$&'()*+,-./0123456789:;<=>?@ABCDEFGHIJKLMNOPQRSTUVWXYZ[\\]^_`abcdefghijklmnopqrstuvwxyz{|}~", .int "NUMBER_MOST" 1000000000, .int "TEXT_MOST" 20, .int "LIST_MOST" 8, .int "VAT_MOST" 9]
def fal4 : List He.Fa := [.int "COUNT_DIGITS" 5, .int "BIG_DIGITS" 2000, .int "EXPONENT_MOST" 10000, .glo "KINDS_coding", .glo "PLAIN_ATOMS", .int "PROGRAM_MOST" 4000, .int "FIELDS_MOST" 6, .int "NAME_MOST" 12, .str "LETTERS" "abcdefghijklmnopqrstuvwxyz", .int "VERSION" 1, .int "ARGUMENTS_MOST" 4, .int "PATH_MOST" 200, .glo "CONTENTS", .glo "TARGETS", .glo "KINDS_journal", .int "NEWLINE" 94, .int "SIZE_MOST" 2000000000, .free "ValueError", .free "int", .free "isinstance", .free "len", .free "list", .free "min", .free "range"]
def fal5 : List He.Fa := [.free "repr", .free "super", .free "tuple"]
def fal : List He.Fa := fal0 ++ (fal1 ++ (fal2 ++ (fal3 ++ (fal4 ++ (fal5)))))
def csl : List (Str × PyData) := [("KINDS_coding", .tuple [.str "object", .str "promise"]), ("PLAIN_ATOMS", .tuple [.tuple [.str "none"], .tuple [.str "bool", .bool false], .tuple [.str "bool", .bool true]]), ("CONTENTS", .tuple [.str "message", .str "fulfill", .str "break", .str "subscribe", .str "resolved", .str "resolved_broken", .str "release", .str "release_answer", .str "transfer"]), ("TARGETS", .tuple [.str "object", .str "promise", .str "answer"]), ("KINDS_journal", .tuple [.str "start", .str "create", .str "send", .str "transfer", .str "take", .str "turn", .str "collect", .str "pin", .str "release", .str "receive", .str "drop"])]
def exl : List ExD := [⟨"Malformed", ["VatError"]⟩, ⟨"BadJournal", ["VatError"]⟩]
def sul : List SupD := [u_Malformed]
def Fc : Facts := ⟨fal, fnl, csl, exl, sul⟩
/-- what the walks lean on -/
structure Txt (K : PySem.W.Frag) (mg : Str → Option Value) : Prop where
  d_is_reference : FunT K "is_reference" "is_reference" s_is_reference (He.fAd K ("is_reference", none))
  g_is_reference : mg "is_reference" = some (.ref (He.fAd K ("is_reference", none)))
  d_atoms : FunT K "atoms" "atoms" s_atoms (He.fAd K ("atoms", none))
  g_atoms : mg "atoms" = some (.ref (He.fAd K ("atoms", none)))
  d_references : FunT K "references" "references" s_references (He.fAd K ("references", none))
  g_references : mg "references" = some (.ref (He.fAd K ("references", none)))
  d_distinct : FunT K "distinct" "distinct" s_distinct (He.fAd K ("distinct", none))
  g_distinct : mg "distinct" = some (.ref (He.fAd K ("distinct", none)))
  d_write_count : FunT K "write_count" "write_count" s_write_count (He.fAd K ("write_count", none))
  g_write_count : mg "write_count" = some (.ref (He.fAd K ("write_count", none)))
  d_write_text : FunT K "write_text" "write_text" s_write_text (He.fAd K ("write_text", none))
  g_write_text : mg "write_text" = some (.ref (He.fAd K ("write_text", none)))
  d_write_weight : FunT K "write_weight" "write_weight" s_write_weight (He.fAd K ("write_weight", none))
  g_write_weight : mg "write_weight" = some (.ref (He.fAd K ("write_weight", none)))
  d_write_reference : FunT K "write_reference" "write_reference" s_write_reference (He.fAd K ("write_reference", none))
  g_write_reference : mg "write_reference" = some (.ref (He.fAd K ("write_reference", none)))
  d_write_atom : FunT K "write_atom" "write_atom" s_write_atom (He.fAd K ("write_atom", none))
  g_write_atom : mg "write_atom" = some (.ref (He.fAd K ("write_atom", none)))
  d_write_value : FunT K "write_value" "write_value" s_write_value (He.fAd K ("write_value", none))
  g_write_value : mg "write_value" = some (.ref (He.fAd K ("write_value", none)))
  d_Reading___init__ : FunT K "__init__" "Reading.__init__" s_Reading___init__ (He.fAd K ("Reading", some "__init__"))
  d_Reading_digits : FunT K "digits" "Reading.digits" s_Reading_digits (He.fAd K ("Reading", some "digits"))
  d_Reading_count : FunT K "count" "Reading.count" s_Reading_count (He.fAd K ("Reading", some "count"))
  d_Reading_big : FunT K "big" "Reading.big" s_Reading_big (He.fAd K ("Reading", some "big"))
  d_Reading_text : FunT K "text" "Reading.text" s_Reading_text (He.fAd K ("Reading", some "text"))
  d_Reading_weight : FunT K "weight" "Reading.weight" s_Reading_weight (He.fAd K ("Reading", some "weight"))
  d_Reading_reference : FunT K "reference" "Reading.reference" s_Reading_reference (He.fAd K ("Reading", some "reference"))
  d_Reading_atom : FunT K "atom" "Reading.atom" s_Reading_atom (He.fAd K ("Reading", some "atom"))
  d_Reading_value : FunT K "value" "Reading.value" s_Reading_value (He.fAd K ("Reading", some "value"))
  d_write_send : FunT K "write_send" "write_send" s_write_send (He.fAd K ("write_send", none))
  g_write_send : mg "write_send" = some (.ref (He.fAd K ("write_send", none)))
  d_write_weights : FunT K "write_weights" "write_weights" s_write_weights (He.fAd K ("write_weights", none))
  g_write_weights : mg "write_weights" = some (.ref (He.fAd K ("write_weights", none)))
  d_write_message : FunT K "write_message" "write_message" s_write_message (He.fAd K ("write_message", none))
  g_write_message : mg "write_message" = some (.ref (He.fAd K ("write_message", none)))
  d_write_target : FunT K "write_target" "write_target" s_write_target (He.fAd K ("write_target", none))
  g_write_target : mg "write_target" = some (.ref (He.fAd K ("write_target", none)))
  d_write_content_packets : FunT K "write_content" "write_content" s_write_content_packets (He.fAd K ("write_content_packets", none))
  g_write_content_packets : mg "write_content_packets" = some (.ref (He.fAd K ("write_content_packets", none)))
  d_write_packet : FunT K "write_packet" "write_packet" s_write_packet (He.fAd K ("write_packet", none))
  g_write_packet : mg "write_packet" = some (.ref (He.fAd K ("write_packet", none)))
  d_read_send : FunT K "read_send" "read_send" s_read_send (He.fAd K ("read_send", none))
  g_read_send : mg "read_send" = some (.ref (He.fAd K ("read_send", none)))
  d_read_weights : FunT K "read_weights" "read_weights" s_read_weights (He.fAd K ("read_weights", none))
  g_read_weights : mg "read_weights" = some (.ref (He.fAd K ("read_weights", none)))
  d_read_method : FunT K "read_method" "read_method" s_read_method (He.fAd K ("read_method", none))
  g_read_method : mg "read_method" = some (.ref (He.fAd K ("read_method", none)))
  d_read_message : FunT K "read_message" "read_message" s_read_message (He.fAd K ("read_message", none))
  g_read_message : mg "read_message" = some (.ref (He.fAd K ("read_message", none)))
  d_read_target : FunT K "read_target" "read_target" s_read_target (He.fAd K ("read_target", none))
  g_read_target : mg "read_target" = some (.ref (He.fAd K ("read_target", none)))
  d_read_message_content : FunT K "read_message_content" "read_message_content" s_read_message_content (He.fAd K ("read_message_content", none))
  g_read_message_content : mg "read_message_content" = some (.ref (He.fAd K ("read_message_content", none)))
  d_read_content_packets : FunT K "read_content" "read_content" s_read_content_packets (He.fAd K ("read_content_packets", none))
  g_read_content_packets : mg "read_content_packets" = some (.ref (He.fAd K ("read_content_packets", none)))
  d_read_packet : FunT K "read_packet" "read_packet" s_read_packet (He.fAd K ("read_packet", none))
  g_read_packet : mg "read_packet" = some (.ref (He.fAd K ("read_packet", none)))
  d_write_program : FunT K "write_program" "write_program" s_write_program (He.fAd K ("write_program", none))
  g_write_program : mg "write_program" = some (.ref (He.fAd K ("write_program", none)))
  d_write_values : FunT K "write_values" "write_values" s_write_values (He.fAd K ("write_values", none))
  g_write_values : mg "write_values" = some (.ref (He.fAd K ("write_values", none)))
  d_write_references : FunT K "write_references" "write_references" s_write_references (He.fAd K ("write_references", none))
  g_write_references : mg "write_references" = some (.ref (He.fAd K ("write_references", none)))
  d_write_content_journal : FunT K "write_content" "write_content" s_write_content_journal (He.fAd K ("write_content_journal", none))
  g_write_content_journal : mg "write_content_journal" = some (.ref (He.fAd K ("write_content_journal", none)))
  d_write_entry : FunT K "write_entry" "write_entry" s_write_entry (He.fAd K ("write_entry", none))
  g_write_entry : mg "write_entry" = some (.ref (He.fAd K ("write_entry", none)))
  d_read_program : FunT K "read_program" "read_program" s_read_program (He.fAd K ("read_program", none))
  g_read_program : mg "read_program" = some (.ref (He.fAd K ("read_program", none)))
  d_read_values : FunT K "read_values" "read_values" s_read_values (He.fAd K ("read_values", none))
  g_read_values : mg "read_values" = some (.ref (He.fAd K ("read_values", none)))
  d_read_content_journal : FunT K "read_content" "read_content" s_read_content_journal (He.fAd K ("read_content_journal", none))
  g_read_content_journal : mg "read_content_journal" = some (.ref (He.fAd K ("read_content_journal", none)))
  d_read_entry : FunT K "read_entry" "read_entry" s_read_entry (He.fAd K ("read_entry", none))
  g_read_entry : mg "read_entry" = some (.ref (He.fAd K ("read_entry", none)))
  d_next_size : FunT K "next_size" "next_size" s_next_size (He.fAd K ("next_size", none))
  g_next_size : mg "next_size" = some (.ref (He.fAd K ("next_size", none)))
  d_read_journal : FunT K "read_journal" "read_journal" s_read_journal (He.fAd K ("read_journal", none))
  g_read_journal : mg "read_journal" = some (.ref (He.fAd K ("read_journal", none)))
  d__law_cell : FunT K "_law_cell" "_law_cell" s__law_cell (He.fAd K ("_law_cell", none))
  g__law_cell : mg "_law_cell" = some (.ref (He.fAd K ("_law_cell", none)))
  d__law_digits : FunT K "_law_digits" "_law_digits" s__law_digits (He.fAd K ("_law_digits", none))
  g__law_digits : mg "_law_digits" = some (.ref (He.fAd K ("_law_digits", none)))
  d__law_draw : FunT K "_law_draw" "_law_draw" s__law_draw (He.fAd K ("_law_draw", none))
  g__law_draw : mg "_law_draw" = some (.ref (He.fAd K ("_law_draw", none)))
  d__law_same : FunT K "_law_same" "_law_same" s__law_same (He.fAd K ("_law_same", none))
  g__law_same : mg "_law_same" = some (.ref (He.fAd K ("_law_same", none)))
  d__law_signs : FunT K "_law_signs" "_law_signs" s__law_signs (He.fAd K ("_law_signs", none))
  g__law_signs : mg "_law_signs" = some (.ref (He.fAd K ("_law_signs", none)))
  d__law_count : FunT K "_law_count" "_law_count" s__law_count (He.fAd K ("_law_count", none))
  g__law_count : mg "_law_count" = some (.ref (He.fAd K ("_law_count", none)))
  d__law_written_text : FunT K "_law_written_text" "_law_written_text" s__law_written_text (He.fAd K ("_law_written_text", none))
  g__law_written_text : mg "_law_written_text" = some (.ref (He.fAd K ("_law_written_text", none)))
  d__law_written_program : FunT K "_law_written_program" "_law_written_program" s__law_written_program (He.fAd K ("_law_written_program", none))
  g__law_written_program : mg "_law_written_program" = some (.ref (He.fAd K ("_law_written_program", none)))
  d__law_written_reference : FunT K "_law_written_reference" "_law_written_reference" s__law_written_reference (He.fAd K ("_law_written_reference", none))
  g__law_written_reference : mg "_law_written_reference" = some (.ref (He.fAd K ("_law_written_reference", none)))
  d__law_written_atom : FunT K "_law_written_atom" "_law_written_atom" s__law_written_atom (He.fAd K ("_law_written_atom", none))
  g__law_written_atom : mg "_law_written_atom" = some (.ref (He.fAd K ("_law_written_atom", none)))
  d__law_row : FunT K "_law_row" "_law_row" s__law_row (He.fAd K ("_law_row", none))
  g__law_row : mg "_law_row" = some (.ref (He.fAd K ("_law_row", none)))
  d__law_written_value : FunT K "_law_written_value" "_law_written_value" s__law_written_value (He.fAd K ("_law_written_value", none))
  g__law_written_value : mg "_law_written_value" = some (.ref (He.fAd K ("_law_written_value", none)))
  d__law_written_values : FunT K "_law_written_values" "_law_written_values" s__law_written_values (He.fAd K ("_law_written_values", none))
  g__law_written_values : mg "_law_written_values" = some (.ref (He.fAd K ("_law_written_values", none)))
  d__law_integer : FunT K "_law_integer" "_law_integer" s__law_integer (He.fAd K ("_law_integer", none))
  g__law_integer : mg "_law_integer" = some (.ref (He.fAd K ("_law_integer", none)))
  d__law_string : FunT K "_law_string" "_law_string" s__law_string (He.fAd K ("_law_string", none))
  g__law_string : mg "_law_string" = some (.ref (He.fAd K ("_law_string", none)))
  d__law_atom : FunT K "_law_atom" "_law_atom" s__law_atom (He.fAd K ("_law_atom", none))
  g__law_atom : mg "_law_atom" = some (.ref (He.fAd K ("_law_atom", none)))
  d__law_value : FunT K "_law_value" "_law_value" s__law_value (He.fAd K ("_law_value", none))
  g__law_value : mg "_law_value" = some (.ref (He.fAd K ("_law_value", none)))
  d__law_atoms : FunT K "_law_atoms" "_law_atoms" s__law_atoms (He.fAd K ("_law_atoms", none))
  g__law_atoms : mg "_law_atoms" = some (.ref (He.fAd K ("_law_atoms", none)))
  d__law_distinct : FunT K "_law_distinct" "_law_distinct" s__law_distinct (He.fAd K ("_law_distinct", none))
  g__law_distinct : mg "_law_distinct" = some (.ref (He.fAd K ("_law_distinct", none)))
  d__law_number : FunT K "_law_number" "_law_number" s__law_number (He.fAd K ("_law_number", none))
  g__law_number : mg "_law_number" = some (.ref (He.fAd K ("_law_number", none)))
  d__law_weight : FunT K "_law_weight" "_law_weight" s__law_weight (He.fAd K ("_law_weight", none))
  g__law_weight : mg "_law_weight" = some (.ref (He.fAd K ("_law_weight", none)))
  d__law_shares_of : FunT K "_law_shares_of" "_law_shares_of" s__law_shares_of (He.fAd K ("_law_shares_of", none))
  g__law_shares_of : mg "_law_shares_of" = some (.ref (He.fAd K ("_law_shares_of", none)))
  d__law_send : FunT K "_law_send" "_law_send" s__law_send (He.fAd K ("_law_send", none))
  g__law_send : mg "_law_send" = some (.ref (He.fAd K ("_law_send", none)))
  d__law_message : FunT K "_law_message" "_law_message" s__law_message (He.fAd K ("_law_message", none))
  g__law_message : mg "_law_message" = some (.ref (He.fAd K ("_law_message", none)))
  d__law_drawn_content : FunT K "_law_drawn_content" "_law_drawn_content" s__law_drawn_content (He.fAd K ("_law_drawn_content", none))
  g__law_drawn_content : mg "_law_drawn_content" = some (.ref (He.fAd K ("_law_drawn_content", none)))
  d__law_written_weight : FunT K "_law_written_weight" "_law_written_weight" s__law_written_weight (He.fAd K ("_law_written_weight", none))
  g__law_written_weight : mg "_law_written_weight" = some (.ref (He.fAd K ("_law_written_weight", none)))
  d__law_shares : FunT K "_law_shares" "_law_shares" s__law_shares (He.fAd K ("_law_shares", none))
  g__law_shares : mg "_law_shares" = some (.ref (He.fAd K ("_law_shares", none)))
  d__law_written_send : FunT K "_law_written_send" "_law_written_send" s__law_written_send (He.fAd K ("_law_written_send", none))
  g__law_written_send : mg "_law_written_send" = some (.ref (He.fAd K ("_law_written_send", none)))
  d__law_written_message : FunT K "_law_written_message" "_law_written_message" s__law_written_message (He.fAd K ("_law_written_message", none))
  g__law_written_message : mg "_law_written_message" = some (.ref (He.fAd K ("_law_written_message", none)))
  d__law_written_target : FunT K "_law_written_target" "_law_written_target" s__law_written_target (He.fAd K ("_law_written_target", none))
  g__law_written_target : mg "_law_written_target" = some (.ref (He.fAd K ("_law_written_target", none)))
  d__law_written_content : FunT K "_law_written_content" "_law_written_content" s__law_written_content (He.fAd K ("_law_written_content", none))
  g__law_written_content : mg "_law_written_content" = some (.ref (He.fAd K ("_law_written_content", none)))
  d__law_written_packet : FunT K "_law_written_packet" "_law_written_packet" s__law_written_packet (He.fAd K ("_law_written_packet", none))
  g__law_written_packet : mg "_law_written_packet" = some (.ref (He.fAd K ("_law_written_packet", none)))
  d__law_content : FunT K "_law_content" "_law_content" s__law_content (He.fAd K ("_law_content", none))
  g__law_content : mg "_law_content" = some (.ref (He.fAd K ("_law_content", none)))
  d__law_written : FunT K "_law_written" "_law_written" s__law_written (He.fAd K ("_law_written", none))
  g__law_written : mg "_law_written" = some (.ref (He.fAd K ("_law_written", none)))
  d__law_reference : FunT K "_law_reference" "_law_reference" s__law_reference (He.fAd K ("_law_reference", none))
  g__law_reference : mg "_law_reference" = some (.ref (He.fAd K ("_law_reference", none)))
  d__law_name : FunT K "_law_name" "_law_name" s__law_name (He.fAd K ("_law_name", none))
  g__law_name : mg "_law_name" = some (.ref (He.fAd K ("_law_name", none)))
  d__law_program : FunT K "_law_program" "_law_program" s__law_program (He.fAd K ("_law_program", none))
  g__law_program : mg "_law_program" = some (.ref (He.fAd K ("_law_program", none)))
  d__law_entry : FunT K "_law_entry" "_law_entry" s__law_entry (He.fAd K ("_law_entry", none))
  g__law_entry : mg "_law_entry" = some (.ref (He.fAd K ("_law_entry", none)))
  d_law : FunT K "law" "law" s_law (He.fAd K ("law", none))
  g_law : mg "law" = some (.ref (He.fAd K ("law", none)))
  g_Reading : mg "Reading" = some (.ref (He.ga K "Reading"))
  cl_Reading : Cls K (He.ga K "Reading")
  mk_Reading : Mk K (He.ga K "Reading") (He.fAd K ("Reading", some "__init__"))
  na_Reading_numbers : NoAttr K (He.ga K "Reading") "numbers"
  na_Reading_at : NoAttr K (He.ga K "Reading") "at"
  m_Reading_digits : Meth K (He.ga K "Reading") "digits" (He.fAd K ("Reading", some "digits"))
  m_Reading_count : Meth K (He.ga K "Reading") "count" (He.fAd K ("Reading", some "count"))
  m_Reading_big : Meth K (He.ga K "Reading") "big" (He.fAd K ("Reading", some "big"))
  m_Reading_text : Meth K (He.ga K "Reading") "text" (He.fAd K ("Reading", some "text"))
  m_Reading_weight : Meth K (He.ga K "Reading") "weight" (He.fAd K ("Reading", some "weight"))
  m_Reading_reference : Meth K (He.ga K "Reading") "reference" (He.fAd K ("Reading", some "reference"))
  m_Reading_atom : Meth K (He.ga K "Reading") "atom" (He.fAd K ("Reading", some "atom"))
  m_Reading_value : Meth K (He.ga K "Reading") "value" (He.fAd K ("Reading", some "value"))
  g_Malformed : mg "Malformed" = some (.ref (He.ga K "Malformed"))
  ex_Malformed : ExT K ⟨"Malformed", ["VatError"]⟩
  na_Malformed_place : NoAttr K (He.ga K "Malformed") "place"
  g_BadJournal : mg "BadJournal" = some (.ref (He.ga K "BadJournal"))
  ex_BadJournal : ExT K ⟨"BadJournal", ["VatError"]⟩
  s_Malformed : ∃ cc cda fd, SupK K u_Malformed cc cda fd
  g_VatError : mg "VatError" = some (.ref (He.ga K "VatError"))
  c_CHARACTERS : ∃ t, mg "CHARACTERS" = some (.str " !\"#$&'()*+,-./0123456789:;<=>?@ABCDEFGHIJKLMNOPQRSTUVWXYZ[\\]^_`abcdefghijklmnopqrstuvwxyz{|}~" t)
  c_NUMBER_MOST : ∃ t, mg "NUMBER_MOST" = some (.int 1000000000 t)
  c_TEXT_MOST : ∃ t, mg "TEXT_MOST" = some (.int 20 t)
  c_LIST_MOST : ∃ t, mg "LIST_MOST" = some (.int 8 t)
  c_VAT_MOST : ∃ t, mg "VAT_MOST" = some (.int 9 t)
  c_COUNT_DIGITS : ∃ t, mg "COUNT_DIGITS" = some (.int 5 t)
  c_BIG_DIGITS : ∃ t, mg "BIG_DIGITS" = some (.int 2000 t)
  c_EXPONENT_MOST : ∃ t, mg "EXPONENT_MOST" = some (.int 10000 t)
  c_KINDS_coding : mg "KINDS_coding" = some (.ref (He.ga K "KINDS_coding"))
  t_KINDS_coding : ∀ H, Dp K H (.ref (He.ga K "KINDS_coding")) (.tuple [.str "object", .str "promise"])
  y_KINDS_coding : ∀ H, tyV K "tuple" (.ref (He.ga K "KINDS_coding")) H
  c_PLAIN_ATOMS : mg "PLAIN_ATOMS" = some (.ref (He.ga K "PLAIN_ATOMS"))
  t_PLAIN_ATOMS : ∀ H, Dp K H (.ref (He.ga K "PLAIN_ATOMS")) (.tuple [.tuple [.str "none"], .tuple [.str "bool", .bool false], .tuple [.str "bool", .bool true]])
  y_PLAIN_ATOMS : ∀ H, tyV K "tuple" (.ref (He.ga K "PLAIN_ATOMS")) H
  c_PROGRAM_MOST : ∃ t, mg "PROGRAM_MOST" = some (.int 4000 t)
  c_FIELDS_MOST : ∃ t, mg "FIELDS_MOST" = some (.int 6 t)
  c_NAME_MOST : ∃ t, mg "NAME_MOST" = some (.int 12 t)
  c_LETTERS : ∃ t, mg "LETTERS" = some (.str "abcdefghijklmnopqrstuvwxyz" t)
  c_VERSION : ∃ t, mg "VERSION" = some (.int 1 t)
  c_ARGUMENTS_MOST : ∃ t, mg "ARGUMENTS_MOST" = some (.int 4 t)
  c_PATH_MOST : ∃ t, mg "PATH_MOST" = some (.int 200 t)
  c_CONTENTS : mg "CONTENTS" = some (.ref (He.ga K "CONTENTS"))
  t_CONTENTS : ∀ H, Dp K H (.ref (He.ga K "CONTENTS")) (.tuple [.str "message", .str "fulfill", .str "break", .str "subscribe", .str "resolved", .str "resolved_broken", .str "release", .str "release_answer", .str "transfer"])
  y_CONTENTS : ∀ H, tyV K "tuple" (.ref (He.ga K "CONTENTS")) H
  c_TARGETS : mg "TARGETS" = some (.ref (He.ga K "TARGETS"))
  t_TARGETS : ∀ H, Dp K H (.ref (He.ga K "TARGETS")) (.tuple [.str "object", .str "promise", .str "answer"])
  y_TARGETS : ∀ H, tyV K "tuple" (.ref (He.ga K "TARGETS")) H
  c_KINDS_journal : mg "KINDS_journal" = some (.ref (He.ga K "KINDS_journal"))
  t_KINDS_journal : ∀ H, Dp K H (.ref (He.ga K "KINDS_journal")) (.tuple [.str "start", .str "create", .str "send", .str "transfer", .str "take", .str "turn", .str "collect", .str "pin", .str "release", .str "receive", .str "drop"])
  y_KINDS_journal : ∀ H, tyV K "tuple" (.ref (He.ga K "KINDS_journal")) H
  c_NEWLINE : ∃ t, mg "NEWLINE" = some (.int 94 t)
  c_SIZE_MOST : ∃ t, mg "SIZE_MOST" = some (.int 2000000000 t)
  n_ValueError : mg "ValueError" = none
  n_int : mg "int" = none
  n_isinstance : mg "isinstance" = none
  n_len : mg "len" = none
  n_list : mg "list" = none
  n_min : mg "min" = none
  n_range : mg "range" = none
  n_repr : mg "repr" = none
  n_super : mg "super" = none
  n_tuple : mg "tuple" = none
theorem txt {K : PySem.W.Frag} {h : Heap} {mg : Str → Option Value} (X : K.In h) (G : h.Ns mainGlobals mg) (c : Fc.Says K) : Txt K mg where
  d_is_reference := c.d.def_ 0 (d := Kt.d_is_reference) rfl
  g_is_reference := He.glo_ok X G (c.d.fact 0 (f := .glo "is_reference") rfl)
  d_atoms := c.d.def_ 1 (d := Kt.d_atoms) rfl
  g_atoms := He.glo_ok X G (c.d.fact 1 (f := .glo "atoms") rfl)
  d_references := c.d.def_ 2 (d := Kt.d_references) rfl
  g_references := He.glo_ok X G (c.d.fact 2 (f := .glo "references") rfl)
  d_distinct := c.d.def_ 3 (d := Kt.d_distinct) rfl
  g_distinct := He.glo_ok X G (c.d.fact 3 (f := .glo "distinct") rfl)
  d_write_count := c.d.def_ 4 (d := Kt.d_write_count) rfl
  g_write_count := He.glo_ok X G (c.d.fact 4 (f := .glo "write_count") rfl)
  d_write_text := c.d.def_ 5 (d := Kt.d_write_text) rfl
  g_write_text := He.glo_ok X G (c.d.fact 5 (f := .glo "write_text") rfl)
  d_write_weight := c.d.def_ 6 (d := Kt.d_write_weight) rfl
  g_write_weight := He.glo_ok X G (c.d.fact 6 (f := .glo "write_weight") rfl)
  d_write_reference := c.d.def_ 7 (d := Kt.d_write_reference) rfl
  g_write_reference := He.glo_ok X G (c.d.fact 7 (f := .glo "write_reference") rfl)
  d_write_atom := c.d.def_ 8 (d := Kt.d_write_atom) rfl
  g_write_atom := He.glo_ok X G (c.d.fact 8 (f := .glo "write_atom") rfl)
  d_write_value := c.d.def_ 9 (d := Kt.d_write_value) rfl
  g_write_value := He.glo_ok X G (c.d.fact 9 (f := .glo "write_value") rfl)
  d_Reading___init__ := c.d.def_ 10 (d := Kt.d_Reading___init__) rfl
  d_Reading_digits := c.d.def_ 11 (d := Kt.d_Reading_digits) rfl
  d_Reading_count := c.d.def_ 12 (d := Kt.d_Reading_count) rfl
  d_Reading_big := c.d.def_ 13 (d := Kt.d_Reading_big) rfl
  d_Reading_text := c.d.def_ 14 (d := Kt.d_Reading_text) rfl
  d_Reading_weight := c.d.def_ 15 (d := Kt.d_Reading_weight) rfl
  d_Reading_reference := c.d.def_ 16 (d := Kt.d_Reading_reference) rfl
  d_Reading_atom := c.d.def_ 17 (d := Kt.d_Reading_atom) rfl
  d_Reading_value := c.d.def_ 18 (d := Kt.d_Reading_value) rfl
  d_write_send := c.d.def_ 19 (d := Kt.d_write_send) rfl
  g_write_send := He.glo_ok X G (c.d.fact 10 (f := .glo "write_send") rfl)
  d_write_weights := c.d.def_ 20 (d := Kt.d_write_weights) rfl
  g_write_weights := He.glo_ok X G (c.d.fact 11 (f := .glo "write_weights") rfl)
  d_write_message := c.d.def_ 21 (d := Kt.d_write_message) rfl
  g_write_message := He.glo_ok X G (c.d.fact 12 (f := .glo "write_message") rfl)
  d_write_target := c.d.def_ 22 (d := Kt.d_write_target) rfl
  g_write_target := He.glo_ok X G (c.d.fact 13 (f := .glo "write_target") rfl)
  d_write_content_packets := c.d.def_ 23 (d := Kt.d_write_content_packets) rfl
  g_write_content_packets := He.glo_ok X G (c.d.fact 14 (f := .glo "write_content_packets") rfl)
  d_write_packet := c.d.def_ 24 (d := Kt.d_write_packet) rfl
  g_write_packet := He.glo_ok X G (c.d.fact 15 (f := .glo "write_packet") rfl)
  d_read_send := c.d.def_ 25 (d := Kt.d_read_send) rfl
  g_read_send := He.glo_ok X G (c.d.fact 16 (f := .glo "read_send") rfl)
  d_read_weights := c.d.def_ 26 (d := Kt.d_read_weights) rfl
  g_read_weights := He.glo_ok X G (c.d.fact 17 (f := .glo "read_weights") rfl)
  d_read_method := c.d.def_ 27 (d := Kt.d_read_method) rfl
  g_read_method := He.glo_ok X G (c.d.fact 18 (f := .glo "read_method") rfl)
  d_read_message := c.d.def_ 28 (d := Kt.d_read_message) rfl
  g_read_message := He.glo_ok X G (c.d.fact 19 (f := .glo "read_message") rfl)
  d_read_target := c.d.def_ 29 (d := Kt.d_read_target) rfl
  g_read_target := He.glo_ok X G (c.d.fact 20 (f := .glo "read_target") rfl)
  d_read_message_content := c.d.def_ 30 (d := Kt.d_read_message_content) rfl
  g_read_message_content := He.glo_ok X G (c.d.fact 21 (f := .glo "read_message_content") rfl)
  d_read_content_packets := c.d.def_ 31 (d := Kt.d_read_content_packets) rfl
  g_read_content_packets := He.glo_ok X G (c.d.fact 22 (f := .glo "read_content_packets") rfl)
  d_read_packet := c.d.def_ 32 (d := Kt.d_read_packet) rfl
  g_read_packet := He.glo_ok X G (c.d.fact 23 (f := .glo "read_packet") rfl)
  d_write_program := c.d.def_ 33 (d := Kt.d_write_program) rfl
  g_write_program := He.glo_ok X G (c.d.fact 24 (f := .glo "write_program") rfl)
  d_write_values := c.d.def_ 34 (d := Kt.d_write_values) rfl
  g_write_values := He.glo_ok X G (c.d.fact 25 (f := .glo "write_values") rfl)
  d_write_references := c.d.def_ 35 (d := Kt.d_write_references) rfl
  g_write_references := He.glo_ok X G (c.d.fact 26 (f := .glo "write_references") rfl)
  d_write_content_journal := c.d.def_ 36 (d := Kt.d_write_content_journal) rfl
  g_write_content_journal := He.glo_ok X G (c.d.fact 27 (f := .glo "write_content_journal") rfl)
  d_write_entry := c.d.def_ 37 (d := Kt.d_write_entry) rfl
  g_write_entry := He.glo_ok X G (c.d.fact 28 (f := .glo "write_entry") rfl)
  d_read_program := c.d.def_ 38 (d := Kt.d_read_program) rfl
  g_read_program := He.glo_ok X G (c.d.fact 29 (f := .glo "read_program") rfl)
  d_read_values := c.d.def_ 39 (d := Kt.d_read_values) rfl
  g_read_values := He.glo_ok X G (c.d.fact 30 (f := .glo "read_values") rfl)
  d_read_content_journal := c.d.def_ 40 (d := Kt.d_read_content_journal) rfl
  g_read_content_journal := He.glo_ok X G (c.d.fact 31 (f := .glo "read_content_journal") rfl)
  d_read_entry := c.d.def_ 41 (d := Kt.d_read_entry) rfl
  g_read_entry := He.glo_ok X G (c.d.fact 32 (f := .glo "read_entry") rfl)
  d_next_size := c.d.def_ 42 (d := Kt.d_next_size) rfl
  g_next_size := He.glo_ok X G (c.d.fact 33 (f := .glo "next_size") rfl)
  d_read_journal := c.d.def_ 43 (d := Kt.d_read_journal) rfl
  g_read_journal := He.glo_ok X G (c.d.fact 34 (f := .glo "read_journal") rfl)
  d__law_cell := c.d.def_ 44 (d := Kt.d__law_cell) rfl
  g__law_cell := He.glo_ok X G (c.d.fact 35 (f := .glo "_law_cell") rfl)
  d__law_digits := c.d.def_ 45 (d := Kt.d__law_digits) rfl
  g__law_digits := He.glo_ok X G (c.d.fact 36 (f := .glo "_law_digits") rfl)
  d__law_draw := c.d.def_ 46 (d := Kt.d__law_draw) rfl
  g__law_draw := He.glo_ok X G (c.d.fact 37 (f := .glo "_law_draw") rfl)
  d__law_same := c.d.def_ 47 (d := Kt.d__law_same) rfl
  g__law_same := He.glo_ok X G (c.d.fact 38 (f := .glo "_law_same") rfl)
  d__law_signs := c.d.def_ 48 (d := Kt.d__law_signs) rfl
  g__law_signs := He.glo_ok X G (c.d.fact 39 (f := .glo "_law_signs") rfl)
  d__law_count := c.d.def_ 49 (d := Kt.d__law_count) rfl
  g__law_count := He.glo_ok X G (c.d.fact 40 (f := .glo "_law_count") rfl)
  d__law_written_text := c.d.def_ 50 (d := Kt.d__law_written_text) rfl
  g__law_written_text := He.glo_ok X G (c.d.fact 41 (f := .glo "_law_written_text") rfl)
  d__law_written_program := c.d.def_ 51 (d := Kt.d__law_written_program) rfl
  g__law_written_program := He.glo_ok X G (c.d.fact 42 (f := .glo "_law_written_program") rfl)
  d__law_written_reference := c.d.def_ 52 (d := Kt.d__law_written_reference) rfl
  g__law_written_reference := He.glo_ok X G (c.d.fact 43 (f := .glo "_law_written_reference") rfl)
  d__law_written_atom := c.d.def_ 53 (d := Kt.d__law_written_atom) rfl
  g__law_written_atom := He.glo_ok X G (c.d.fact 44 (f := .glo "_law_written_atom") rfl)
  d__law_row := c.d.def_ 54 (d := Kt.d__law_row) rfl
  g__law_row := He.glo_ok X G (c.d.fact 45 (f := .glo "_law_row") rfl)
  d__law_written_value := c.d.def_ 55 (d := Kt.d__law_written_value) rfl
  g__law_written_value := He.glo_ok X G (c.d.fact 46 (f := .glo "_law_written_value") rfl)
  d__law_written_values := c.d.def_ 56 (d := Kt.d__law_written_values) rfl
  g__law_written_values := He.glo_ok X G (c.d.fact 47 (f := .glo "_law_written_values") rfl)
  d__law_integer := c.d.def_ 57 (d := Kt.d__law_integer) rfl
  g__law_integer := He.glo_ok X G (c.d.fact 48 (f := .glo "_law_integer") rfl)
  d__law_string := c.d.def_ 58 (d := Kt.d__law_string) rfl
  g__law_string := He.glo_ok X G (c.d.fact 49 (f := .glo "_law_string") rfl)
  d__law_atom := c.d.def_ 59 (d := Kt.d__law_atom) rfl
  g__law_atom := He.glo_ok X G (c.d.fact 50 (f := .glo "_law_atom") rfl)
  d__law_value := c.d.def_ 60 (d := Kt.d__law_value) rfl
  g__law_value := He.glo_ok X G (c.d.fact 51 (f := .glo "_law_value") rfl)
  d__law_atoms := c.d.def_ 61 (d := Kt.d__law_atoms) rfl
  g__law_atoms := He.glo_ok X G (c.d.fact 52 (f := .glo "_law_atoms") rfl)
  d__law_distinct := c.d.def_ 62 (d := Kt.d__law_distinct) rfl
  g__law_distinct := He.glo_ok X G (c.d.fact 53 (f := .glo "_law_distinct") rfl)
  d__law_number := c.d.def_ 63 (d := Kt.d__law_number) rfl
  g__law_number := He.glo_ok X G (c.d.fact 54 (f := .glo "_law_number") rfl)
  d__law_weight := c.d.def_ 64 (d := Kt.d__law_weight) rfl
  g__law_weight := He.glo_ok X G (c.d.fact 55 (f := .glo "_law_weight") rfl)
  d__law_shares_of := c.d.def_ 65 (d := Kt.d__law_shares_of) rfl
  g__law_shares_of := He.glo_ok X G (c.d.fact 56 (f := .glo "_law_shares_of") rfl)
  d__law_send := c.d.def_ 66 (d := Kt.d__law_send) rfl
  g__law_send := He.glo_ok X G (c.d.fact 57 (f := .glo "_law_send") rfl)
  d__law_message := c.d.def_ 67 (d := Kt.d__law_message) rfl
  g__law_message := He.glo_ok X G (c.d.fact 58 (f := .glo "_law_message") rfl)
  d__law_drawn_content := c.d.def_ 68 (d := Kt.d__law_drawn_content) rfl
  g__law_drawn_content := He.glo_ok X G (c.d.fact 59 (f := .glo "_law_drawn_content") rfl)
  d__law_written_weight := c.d.def_ 69 (d := Kt.d__law_written_weight) rfl
  g__law_written_weight := He.glo_ok X G (c.d.fact 60 (f := .glo "_law_written_weight") rfl)
  d__law_shares := c.d.def_ 70 (d := Kt.d__law_shares) rfl
  g__law_shares := He.glo_ok X G (c.d.fact 61 (f := .glo "_law_shares") rfl)
  d__law_written_send := c.d.def_ 71 (d := Kt.d__law_written_send) rfl
  g__law_written_send := He.glo_ok X G (c.d.fact 62 (f := .glo "_law_written_send") rfl)
  d__law_written_message := c.d.def_ 72 (d := Kt.d__law_written_message) rfl
  g__law_written_message := He.glo_ok X G (c.d.fact 63 (f := .glo "_law_written_message") rfl)
  d__law_written_target := c.d.def_ 73 (d := Kt.d__law_written_target) rfl
  g__law_written_target := He.glo_ok X G (c.d.fact 64 (f := .glo "_law_written_target") rfl)
  d__law_written_content := c.d.def_ 74 (d := Kt.d__law_written_content) rfl
  g__law_written_content := He.glo_ok X G (c.d.fact 65 (f := .glo "_law_written_content") rfl)
  d__law_written_packet := c.d.def_ 75 (d := Kt.d__law_written_packet) rfl
  g__law_written_packet := He.glo_ok X G (c.d.fact 66 (f := .glo "_law_written_packet") rfl)
  d__law_content := c.d.def_ 76 (d := Kt.d__law_content) rfl
  g__law_content := He.glo_ok X G (c.d.fact 67 (f := .glo "_law_content") rfl)
  d__law_written := c.d.def_ 77 (d := Kt.d__law_written) rfl
  g__law_written := He.glo_ok X G (c.d.fact 68 (f := .glo "_law_written") rfl)
  d__law_reference := c.d.def_ 78 (d := Kt.d__law_reference) rfl
  g__law_reference := He.glo_ok X G (c.d.fact 69 (f := .glo "_law_reference") rfl)
  d__law_name := c.d.def_ 79 (d := Kt.d__law_name) rfl
  g__law_name := He.glo_ok X G (c.d.fact 70 (f := .glo "_law_name") rfl)
  d__law_program := c.d.def_ 80 (d := Kt.d__law_program) rfl
  g__law_program := He.glo_ok X G (c.d.fact 71 (f := .glo "_law_program") rfl)
  d__law_entry := c.d.def_ 81 (d := Kt.d__law_entry) rfl
  g__law_entry := He.glo_ok X G (c.d.fact 72 (f := .glo "_law_entry") rfl)
  d_law := c.d.def_ 82 (d := Kt.d_law) rfl
  g_law := He.glo_ok X G (c.d.fact 73 (f := .glo "law") rfl)
  g_Reading := He.glo_ok X G (c.d.fact 74 (f := .glo "Reading") rfl)
  cl_Reading := He.cls_ok (c.d.fact 75 (f := .cls "Reading") rfl)
  mk_Reading := He.mkr_ok (c.d.fact 76 (f := .mkr "Reading") rfl)
  na_Reading_numbers := He.noat_ok (c.d.fact 77 (f := .noat "Reading" "numbers") rfl)
  na_Reading_at := He.noat_ok (c.d.fact 78 (f := .noat "Reading" "at") rfl)
  m_Reading_digits := He.meth_ok (c.d.fact 79 (f := .meth "Reading" "digits") rfl)
  m_Reading_count := He.meth_ok (c.d.fact 80 (f := .meth "Reading" "count") rfl)
  m_Reading_big := He.meth_ok (c.d.fact 81 (f := .meth "Reading" "big") rfl)
  m_Reading_text := He.meth_ok (c.d.fact 82 (f := .meth "Reading" "text") rfl)
  m_Reading_weight := He.meth_ok (c.d.fact 83 (f := .meth "Reading" "weight") rfl)
  m_Reading_reference := He.meth_ok (c.d.fact 84 (f := .meth "Reading" "reference") rfl)
  m_Reading_atom := He.meth_ok (c.d.fact 85 (f := .meth "Reading" "atom") rfl)
  m_Reading_value := He.meth_ok (c.d.fact 86 (f := .meth "Reading" "value") rfl)
  g_Malformed := He.glo_ok X G (c.d.fact 87 (f := .glo "Malformed") rfl)
  ex_Malformed := c.exd 0 (e := ⟨"Malformed", ["VatError"]⟩) rfl
  na_Malformed_place := He.noat_ok (c.d.fact 88 (f := .noat "Malformed" "place") rfl)
  g_BadJournal := He.glo_ok X G (c.d.fact 89 (f := .glo "BadJournal") rfl)
  ex_BadJournal := c.exd 1 (e := ⟨"BadJournal", ["VatError"]⟩) rfl
  s_Malformed := c.sup 0 (d := u_Malformed) rfl
  g_VatError := He.glo_ok X G (c.d.fact 90 (f := .glo "VatError") rfl)
  c_CHARACTERS := He.str_ok X G (c.d.fact 91 (f := .str "CHARACTERS" " !\"#$&'()*+,-./0123456789:;<=>?@ABCDEFGHIJKLMNOPQRSTUVWXYZ[\\]^_`abcdefghijklmnopqrstuvwxyz{|}~") rfl)
  c_NUMBER_MOST := He.int_ok X G (c.d.fact 92 (f := .int "NUMBER_MOST" 1000000000) rfl)
  c_TEXT_MOST := He.int_ok X G (c.d.fact 93 (f := .int "TEXT_MOST" 20) rfl)
  c_LIST_MOST := He.int_ok X G (c.d.fact 94 (f := .int "LIST_MOST" 8) rfl)
  c_VAT_MOST := He.int_ok X G (c.d.fact 95 (f := .int "VAT_MOST" 9) rfl)
  c_COUNT_DIGITS := He.int_ok X G (c.d.fact 96 (f := .int "COUNT_DIGITS" 5) rfl)
  c_BIG_DIGITS := He.int_ok X G (c.d.fact 97 (f := .int "BIG_DIGITS" 2000) rfl)
  c_EXPONENT_MOST := He.int_ok X G (c.d.fact 98 (f := .int "EXPONENT_MOST" 10000) rfl)
  c_KINDS_coding := He.glo_ok X G (c.d.fact 99 (f := .glo "KINDS_coding") rfl)
  t_KINDS_coding := c.con 0 (q := ("KINDS_coding", .tuple [.str "object", .str "promise"])) rfl
  y_KINDS_coding := c.cty 0 (q := ("KINDS_coding", .tuple [.str "object", .str "promise"])) rfl
  c_PLAIN_ATOMS := He.glo_ok X G (c.d.fact 100 (f := .glo "PLAIN_ATOMS") rfl)
  t_PLAIN_ATOMS := c.con 1 (q := ("PLAIN_ATOMS", .tuple [.tuple [.str "none"], .tuple [.str "bool", .bool false], .tuple [.str "bool", .bool true]])) rfl
  y_PLAIN_ATOMS := c.cty 1 (q := ("PLAIN_ATOMS", .tuple [.tuple [.str "none"], .tuple [.str "bool", .bool false], .tuple [.str "bool", .bool true]])) rfl
  c_PROGRAM_MOST := He.int_ok X G (c.d.fact 101 (f := .int "PROGRAM_MOST" 4000) rfl)
  c_FIELDS_MOST := He.int_ok X G (c.d.fact 102 (f := .int "FIELDS_MOST" 6) rfl)
  c_NAME_MOST := He.int_ok X G (c.d.fact 103 (f := .int "NAME_MOST" 12) rfl)
  c_LETTERS := He.str_ok X G (c.d.fact 104 (f := .str "LETTERS" "abcdefghijklmnopqrstuvwxyz") rfl)
  c_VERSION := He.int_ok X G (c.d.fact 105 (f := .int "VERSION" 1) rfl)
  c_ARGUMENTS_MOST := He.int_ok X G (c.d.fact 106 (f := .int "ARGUMENTS_MOST" 4) rfl)
  c_PATH_MOST := He.int_ok X G (c.d.fact 107 (f := .int "PATH_MOST" 200) rfl)
  c_CONTENTS := He.glo_ok X G (c.d.fact 108 (f := .glo "CONTENTS") rfl)
  t_CONTENTS := c.con 2 (q := ("CONTENTS", .tuple [.str "message", .str "fulfill", .str "break", .str "subscribe", .str "resolved", .str "resolved_broken", .str "release", .str "release_answer", .str "transfer"])) rfl
  y_CONTENTS := c.cty 2 (q := ("CONTENTS", .tuple [.str "message", .str "fulfill", .str "break", .str "subscribe", .str "resolved", .str "resolved_broken", .str "release", .str "release_answer", .str "transfer"])) rfl
  c_TARGETS := He.glo_ok X G (c.d.fact 109 (f := .glo "TARGETS") rfl)
  t_TARGETS := c.con 3 (q := ("TARGETS", .tuple [.str "object", .str "promise", .str "answer"])) rfl
  y_TARGETS := c.cty 3 (q := ("TARGETS", .tuple [.str "object", .str "promise", .str "answer"])) rfl
  c_KINDS_journal := He.glo_ok X G (c.d.fact 110 (f := .glo "KINDS_journal") rfl)
  t_KINDS_journal := c.con 4 (q := ("KINDS_journal", .tuple [.str "start", .str "create", .str "send", .str "transfer", .str "take", .str "turn", .str "collect", .str "pin", .str "release", .str "receive", .str "drop"])) rfl
  y_KINDS_journal := c.cty 4 (q := ("KINDS_journal", .tuple [.str "start", .str "create", .str "send", .str "transfer", .str "take", .str "turn", .str "collect", .str "pin", .str "release", .str "receive", .str "drop"])) rfl
  c_NEWLINE := He.int_ok X G (c.d.fact 111 (f := .int "NEWLINE" 94) rfl)
  c_SIZE_MOST := He.int_ok X G (c.d.fact 112 (f := .int "SIZE_MOST" 2000000000) rfl)
  n_ValueError := He.free_ok X G (c.d.fact 113 (f := .free "ValueError") rfl)
  n_int := He.free_ok X G (c.d.fact 114 (f := .free "int") rfl)
  n_isinstance := He.free_ok X G (c.d.fact 115 (f := .free "isinstance") rfl)
  n_len := He.free_ok X G (c.d.fact 116 (f := .free "len") rfl)
  n_list := He.free_ok X G (c.d.fact 117 (f := .free "list") rfl)
  n_min := He.free_ok X G (c.d.fact 118 (f := .free "min") rfl)
  n_range := He.free_ok X G (c.d.fact 119 (f := .free "range") rfl)
  n_repr := He.free_ok X G (c.d.fact 120 (f := .free "repr") rfl)
  n_super := He.free_ok X G (c.d.fact 121 (f := .free "super") rfl)
  n_tuple := He.free_ok X G (c.d.fact 122 (f := .free "tuple") rfl)
def lo0 : List PySem.Str := ["VatError", "Malformed", "BadJournal", "CHARACTERS", "NUMBER_MOST", "TEXT_MOST", "LIST_MOST", "VAT_MOST", "is_reference", "atoms", "references", "distinct", "COUNT_DIGITS", "BIG_DIGITS", "EXPONENT_MOST", "KINDS_coding", "PLAIN_ATOMS", "write_count", "write_text", "write_weight", "write_reference", "write_atom", "write_value", "Reading"]
def lo1 : List PySem.Str := ["PROGRAM_MOST", "FIELDS_MOST", "NAME_MOST", "LETTERS", "VERSION", "ARGUMENTS_MOST", "PATH_MOST", "CONTENTS", "TARGETS", "write_send", "write_weights", "write_message", "write_target", "write_content", "write_content_packets", "write_packet", "read_send", "read_weights", "read_method", "read_message", "read_target", "read_message_content", "read_content", "read_content_packets"]
def lo2 : List PySem.Str := ["read_packet", "KINDS_journal", "NEWLINE", "SIZE_MOST", "write_program", "write_values", "write_references", "write_content_journal", "write_entry", "read_program", "read_values", "read_content_journal", "read_entry", "next_size", "read_journal", "_law_cell", "_law_digits", "_law_draw", "_law_same", "_law_signs", "_law_count", "_law_written_text", "_law_written_program", "_law_written_reference"]
def lo3 : List PySem.Str := ["_law_written_atom", "_law_row", "_law_written_value", "_law_written_values", "_law_integer", "_law_string", "_law_atom", "_law_value", "_law_atoms", "_law_distinct", "_law_number", "_law_weight", "_law_shares_of", "_law_send", "_law_message", "_law_drawn_content", "_law_written_weight", "_law_shares", "_law_written_send", "_law_written_message", "_law_written_target", "_law_written_content", "_law_written_packet", "_law_content"]
def lo4 : List PySem.Str := ["_law_written", "_law_reference", "_law_name", "_law_program", "_law_entry"]
def loose : List PySem.Str := lo0 ++ (lo1 ++ (lo2 ++ (lo3 ++ (lo4))))
end Kt
set_option Elab.async false
set_option linter.all false
set_option maxRecDepth 100000
set_option maxHeartbeats 4000000
namespace Kt
open PySem PySem.Spec PyProof.Rows L2 Vl
local macro_rules | `(tactic| walk_at "wp") => `(tactic| simp only [L2.start, cxK, a_seq, a_next, a_asg, a_ret, a_retN, a_drop, a_ifS, a_break, a_cont, a_c, a_op, a_un, a_nil, a_cons, a_tup, a_lst, a_call, a_meth, a_make, a_cb, a_bm0, a_bm, a_fld, a_sfld, a_test, a_tB, a_and, a_or, a_not, a_if, a_sl, a_noPart, a_part,
  a_for, a_iTup, a_iList, a_iStr, a_iRng1, a_iRng2, rng1, rng2, a_lc, a_yes, a_gTup, a_gCons, a_gNil, a_gSub, wipe, List.set_cons_zero, List.set_cons_succ,
  v0, v1, v2, v3, v4, v5, v6, v7, v8, v9, v10, n0, n1, n2, n3, n4, n5, n6, n7, n8, n9, n10, i_0, i_c, i_u, e_i, e_s, e_b, e_n, ne_i, ne_s, ne_b, tst, tsi, tss, tsr, Vl.s0, Vl.s1, Vl.s2, Vl.s3, Vl.s4, Vl.s5, List.map_cons, List.map_nil, List.length_cons, List.length_nil, List.replicate, List.cons_append, List.nil_append, Nat.reduceAdd, Nat.reduceSub, decide_eq_true_eq, ofS, String.reduceEq, decide_true, decide_false, Bool.false_eq_true, Bool.not_true, Bool.not_false, if_true, if_false])
local macro_rules | `(tactic| walk_at "wk") => `(tactic| simp only [L2.start, cxK, a_seq, a_next, a_asg, a_ret, a_retN, a_drop, a_ifS, a_break, a_cont, a_c, q_eq, q_ne, q_in, q_ix, q_i0, q_iC, a_un, a_nil, a_cons, a_tup, a_meth, a_make, a_cb, a_bm0, a_bm, a_fld, a_sfld, a_test, a_tB, a_and, a_or, a_not, a_if, a_sl, a_noPart, a_part,
  a_for, a_iTup, a_iList, a_iStr, a_iRng1, a_iRng2, rng1, rng2, a_lc, a_yes, a_gTup, a_gCons, a_gNil, a_gSub, wipe, List.set_cons_zero, List.set_cons_succ,
  v0, v1, v2, v3, v4, v5, v6, v7, v8, v9, v10, n0, n1, n2, n3, n4, n5, n6, n7, n8, n9, n10, i_0, i_c, i_u, e_i, e_s, e_b, e_n, ne_i, ne_s, ne_b, tst, tsi, tss, tsr, Vl.s0, Vl.s1, Vl.s2, Vl.s3, Vl.s4, Vl.s5, List.map_cons, List.map_nil, List.length_cons, List.length_nil, List.replicate, List.cons_append, List.nil_append, Nat.reduceAdd, Nat.reduceSub, decide_eq_true_eq, ofS, String.reduceEq, decide_true, decide_false, Bool.false_eq_true, Bool.not_true, Bool.not_false, if_true, if_false])
section
variable {P : Program} {w : World} {K : PySem.W.Frag} {mg : Str → Option Value} {base : Heap}
theorem ok_write_count (T : Txt K mg) : OkF P w K mg base CX0 "write_count" 1 ["number"] (spW K pN (fun _ => True) cntd) := by
  refine mkF T.d_write_count T.g_write_count sc_write_count bw_write_count (fun vs H Q E h => l1 h) (fun cdv A outer s H vs Q E hr h => ?_)
  obtain ⟨a, rfl, n, hd, _, hl, k⟩ := h
  refine ⟨_, PSs.nox ((pss_cons (ps_set (i := 1) sc_write_count.nd rfl (by first | exact Or.inl rfl | exact Or.inr rfl) (pe_lst pa_nil))
    (pss_cons (ps_while PassesOwn.never (pt_cmpR op_ge (pv 0) pe_int (nomark _))
      (pss_cons (ps_expr (pe_bm PySem.F.plainAttrs_list PySem.F.slot_list_append PySem.F.type_list_append mt_append (pv 1) (pa_cons (pe_op op_add pe_int (pe_op op_mod (pv 0) pe_int)) pa_nil)))
    (pss_one (ps_set (i := 0) sc_write_count.nd rfl (by first | exact Or.inl rfl | exact Or.inr rfl) (pe_op op_fdiv (pv 0) pe_int)))))
    (pss_cons (ps_expr (pe_bm PySem.F.plainAttrs_list PySem.F.slot_list_append PySem.F.type_list_append mt_append (pv 1) (pa_cons (pv 0) pa_nil)))
    (pss_one (ps_ret (pv 1))))))), ?_⟩
  rw [pN, dI] at hd
  subst hd
  walk_at "wp"
  refine ⟨Nat.zero_le _, fun p np => ?_⟩
  refine ⟨fun m σ H1 => ∃ (acc : List Int), σ = [some (.int (m : Nat)), some (.ref p)] ∧ H1 p = some (.lst (vints acc)) ∧ acc ++ cntd m = cntd n ∧ Same H H1, ⟨n, [], rfl, upd_same, rfl, Same.new np⟩, ?_⟩
  rintro m σ H1 ⟨acc, rfl, hp, e, sm⟩
  have hl2 := hl
  rw [← e, List.length_append] at hl2
  walk_at "wp"
  split
  · rename_i c
    have c' : 128 ≤ m := by omega
    rw [cnt_big c'] at e
    refine ⟨fun σ' H' => ∃ m', m' < m ∧ ∃ (acc : List Int), σ' = [some (.int (m' : Nat)), some (.ref p)] ∧ H' p = some (.lst (vints acc)) ∧ acc ++ cntd m' = cntd n ∧ Same H H', fun _ _ h => h, ?_⟩
    refine ⟨ty_lst (.of hp), by decide, appw hp (by omega) ⟨⟨by decide, by decide⟩, m / 128, by omega, acc ++ [128 + ((m % 128 : Nat) : Int)], rfl, upd_same, ?_, Same.put sm np⟩⟩
    rw [List.append_assoc]
    exact e
  · rename_i c
    refine ⟨ty_lst (.of hp), appw hp (by omega) (k _ _ (Same.put sm np) np ?_)⟩
    rw [upd_same, ← e, cnt_small (by omega)]
theorem ok_write_text (T : Txt K mg) : OkF P w K mg base CX0 "write_text" 2 ["text"] (spW K pS Tx eS) := by
  refine mkF T.d_write_text T.g_write_text sc_write_text bw_write_text (fun vs H Q E h => l1 h) (fun cdv A outer s H vs Q E hr h => ?_)
  obtain ⟨a, rfl, ks, hd, ht, hl, k⟩ := h
  refine ⟨_, PSs.nox ((pss_cons (ps_set (i := 1) sc_write_text.nd rfl (by first | exact Or.inl rfl | exact Or.inr rfl) (fcall (ok_write_count T) (hr.mono (by decide)) pass0 (pa_cons (pe_callB call_len_str (by rfl) T.n_len PySem.boot_len (pa_cons (pv 0) pa_nil)) pa_nil)))
    (pss_cons (ps_for PassesOwn.never rfl (pi_str (pv 0)) (pg_name (i := 2) sc_write_text.nd rfl (by first | exact Or.inl rfl | exact Or.inr rfl))
      (pss_one (ps_expr (pe_bm PySem.F.plainAttrs_list PySem.F.slot_list_extend PySem.F.type_list_extend mt_extend (pv 1) (pa_cons (fcall (ok_write_count T) (hr.mono (by decide)) pass0 (pa_cons (pe_bm PySem.F.plainAttrs_str PySem.F.slot_str_index PySem.F.type_str_index mt_sindex (pgS T.c_CHARACTERS) (pa_cons (pv 2) pa_nil)) pa_nil)) pa_nil)))))
    (pss_one (ps_ret (pv 1)))))), ?_⟩
  rw [pS, dS] at hd
  subst hd
  have hl2 := hl
  rw [eS, List.length_append, List.length_map] at hl2
  walk_at "wp"
  refine ⟨_, rfl, by rw [ofIx_len]; exact le1000000 (by omega), ?_⟩
  rw [ofIx_len]
  refine wcall ks.length (.int _) True.intro (by omega) fun p H1 s1 np e1 => ?_
  refine forS (fun i σ H2 => ∃ y, σ = [some (.str (ofIx ks)), some (.ref p), y] ∧ H2 p = some (.lst (vints (cntd ks.length ++ (ks.take i).map nat))) ∧ Same H H2) ⟨_, rfl, ?_, s1⟩ ?_ ?_
  · rw [e1, List.take_zero, List.map_nil, List.append_nil]
  · rintro i c σ H2 hc ⟨y, rfl, e2, s2⟩
    rw [ofIx_list, List.getElem?_map] at hc
    cases hk : ks[i]? with
    | none =>
      rw [hk] at hc
      cases hc
    | some j =>
      rw [hk] at hc
      cases hc
      have hj := ht j (List.mem_of_getElem? hk)
      walk_at "wp"
      refine ⟨ty_lst (.of e2), rfl, idxw hj ?_⟩
      refine wcall j (.int _) True.intro (by rw [cnt_small (by omega)]; show 1 ≤ 1000000; omega) fun p3 H3 s3 np3 e3 => ?_
      rw [cnt_small (by omega)] at e3
      refine extw (s3 _ _ e2) e3 ?_ ⟨_, rfl, ?_, ?_⟩
      · simp only [List.length_append, List.length_map, List.length_take, List.length_cons, List.length_nil]
        omega
      · rw [upd_same, List.take_add_one, hk, List.map_append, List.append_assoc]
        rfl
      · exact Same.put (s2.trans s3) np
  · rintro σ H2 ⟨y, rfl, e2, s2⟩
    walk_at "wp"
    refine k _ _ s2 np ?_
    rw [e2, ofIx_list, List.length_map, List.take_length]
    rfl
theorem ok_write_weight (T : Txt K mg) : OkF P w K mg base CX0 "write_weight" 2 ["weight"] (spW K DWt.d (fun _ => True) DWt.en) := by
  refine mkF T.d_write_weight T.g_write_weight sc_write_weight bw_write_weight (fun vs H Q E h => l1 h) (fun cdv A outer s H vs Q E hr h => ?_)
  obtain ⟨a, rfl, x, hd, _, hl, k⟩ := h
  refine ⟨_, PSs.nox ((pss_one (ps_ret (pe_op op_cat (fcall (ok_write_count T) (hr.mono (by decide)) pass0 (pa_cons (pe_ix ix_tup (pv 0) pe_int (fun _ _ => rfl)) pa_nil)) (fcall (ok_write_count T) (hr.mono (by decide)) pass0 (pa_cons (pe_ix ix_tup (pv 0) pe_int (fun _ _ => rfl)) pa_nil)))))), ?_⟩
  obtain ⟨a, y, z, rfl, hS, h1, h2⟩ := dT2 hd
  rw [pN, dI] at h1 h2
  subst h1 h2
  have hl2 := hl
  simp only [DWt.en, List.length_append] at hl2
  walk_at "wp"
  refine ix_t hS rfl ?_
  refine wcall x.m (.int _) True.intro (by omega) fun p1 H1 s1 np1 e1 => ?_
  refine ix_t ((TupKeep.of s1).sqT hS) rfl ?_
  refine wcall x.e (.int _) True.intro (by omega) fun p2 H2 s2 np2 e2 => ?_
  refine catw (s2 _ _ e1) e2 (by rw [List.length_append]; omega) fun p np => k _ _ ?_ ?_ upd_same
  · exact Same.put (s1.trans s2) ((s1.trans s2).free np)
  · exact (s1.trans s2).free np
theorem ok_write_send (T : Txt K mg) : OkF P w K mg base CX0 "write_send" 2 ["send"] (spW K DSd.d (fun _ => True) DSd.e) := by
  refine mkF T.d_write_send T.g_write_send sc_write_send bw_write_send (fun vs H Q E h => l1 h) (fun cdv A outer s H vs Q E hr h => ?_)
  obtain ⟨a, rfl, x, hd, _, hl, k⟩ := h
  refine ⟨_, PSs.nox ((pss_one (ps_ret (pe_op op_cat (fcall (ok_write_count T) (hr.mono (by decide)) pass0 (pa_cons (pe_ix ix_tup (pv 0) pe_int (fun _ _ => rfl)) pa_nil)) (fcall (ok_write_count T) (hr.mono (by decide)) pass0 (pa_cons (pe_ix ix_tup (pv 0) pe_int (fun _ _ => rfl)) pa_nil)))))), ?_⟩
  obtain ⟨a, y, z, rfl, hS, h1, h2⟩ := dT2 hd
  rw [pN, dI] at h1 h2
  subst h1 h2
  have hl2 := hl
  simp only [DSd.e, List.length_append] at hl2
  walk_at "wp"
  refine ix_t hS rfl ?_
  refine wcall x.v (.int _) True.intro (by omega) fun p1 H1 s1 np1 e1 => ?_
  refine ix_t ((TupKeep.of s1).sqT hS) rfl ?_
  refine wcall x.n (.int _) True.intro (by omega) fun p2 H2 s2 np2 e2 => ?_
  refine catw (s2 _ _ e1) e2 (by rw [List.length_append]; omega) fun p np => k _ _ ?_ ?_ upd_same
  · exact Same.put (s1.trans s2) ((s1.trans s2).free np)
  · exact (s1.trans s2).free np
theorem ok_write_reference (T : Txt K mg) : OkF P w K mg base CX0 "write_reference" 2 ["reference"] (spW K DRef.d (fun _ => True) DRef.e) := by
  refine mkF T.d_write_reference T.g_write_reference sc_write_reference bw_write_reference (fun vs H Q E h => l1 h) (fun cdv A outer s H vs Q E hr h => ?_)
  obtain ⟨a, rfl, x, hd, _, hl, k⟩ := h
  refine ⟨_, PSs.nox ((pss_one (ps_ret (pe_op op_cat (pe_op op_cat (pe_lst (pa_cons (pe_bm PySem.F.plainAttrs_tuple PySem.F.slot_tuple_index PySem.F.type_tuple_index mt_tup_index (pgR T.c_KINDS_coding) (pa_cons (pe_ix ix_tup (pv 0) pe_int (fun _ _ => rfl)) pa_nil)) pa_nil)) (fcall (ok_write_count T) (hr.mono (by decide)) pass0 (pa_cons (pe_ix ix_tup (pv 0) pe_int (fun _ _ => rfl)) pa_nil))) (fcall (ok_write_count T) (hr.mono (by decide)) pass0 (pa_cons (pe_ix ix_tup (pv 0) pe_int (fun _ _ => rfl)) pa_nil)))))), ?_⟩
  obtain ⟨a, u, y, z, rfl, hS, h0, h1, h2⟩ := dT3 hd
  rw [dS] at h0
  rw [pN, dI] at h1 h2
  subst h0 h1 h2
  have hl2 := hl
  simp only [DRef.e, List.length_append, List.length_cons] at hl2
  have hK := sqT_strs (ys := ["object", "promise"]) (T.t_KINDS_coding H)
  walk_at "wp"
  refine ⟨T.y_KINDS_coding _, ix_t hS rfl ?_⟩
  refine tidx _ (if x.p then 1 else 0) hK ?_ ?_ ⟨by decide, fun p0 n0 => ?_⟩
  · cases x.p <;> rfl
  · cases x.p
    · intro m hm
      cases hm
    · intro m hm
      have : m = 0 := by
        have : m < 1 := hm
        omega
      subst this
      simp only [List.getElem?_cons_zero, ne_eq, Option.some.injEq, ofS, String.reduceEq, not_false_eq_true, if_true]
  have s0 := Same.new (o := .lst [.int ((if x.p then 1 else 0 : Nat) : Int)]) n0
  have e0 : upd H p0 (.lst [.int ((if x.p then 1 else 0 : Nat) : Int)]) p0 = some (.lst (vints [((if x.p then 1 else 0 : Nat) : Int)])) := upd_same
  refine ix_t ((TupKeep.of s0).sqT hS) rfl ?_
  refine wcall x.v (.int _) True.intro (by omega) fun p1 H1 s1 np1 e1 => ?_
  refine catw (s1 _ _ e0) e1 (by rw [List.length_append, List.length_singleton]; omega) fun p2 np2 => ?_
  have s2 : Same H (upd H1 p2 (.lst (vints ([((if x.p then 1 else 0 : Nat) : Int)] ++ cntd x.v)))) := Same.put (s0.trans s1) ((s0.trans s1).free np2)
  refine ix_t ((TupKeep.of s2).sqT hS) rfl ?_
  refine wcall x.n (.int _) True.intro (by omega) fun p3 H3 s3 np3 e3 => ?_
  refine catw (s3 _ _ upd_same) e3 (by rw [List.length_append, List.length_append, List.length_singleton]; omega) fun p np => k _ _ ?_ ?_ ?_
  · exact Same.put (s2.trans s3) ((s2.trans s3).free np)
  · exact (s2.trans s3).free np
  · rw [upd_same, DRef.e]
    cases x.p <;> rfl
end
end Kt
set_option Elab.async false
set_option linter.all false
set_option maxRecDepth 100000
set_option maxHeartbeats 4000000
namespace Kt
open PySem PySem.Spec PyProof.Rows L2 Vl
local macro_rules | `(tactic| walk_at "wp") => `(tactic| simp only [L2.start, cxK, a_seq, a_next, a_asg, a_ret, a_retN, a_drop, a_ifS, a_break, a_cont, a_c, a_op, a_un, a_nil, a_cons, a_tup, a_lst, a_call, a_meth, a_make, a_cb, a_bm0, a_bm, a_fld, a_sfld, a_test, a_tB, a_and, a_or, a_not, a_if, a_sl, a_noPart, a_part,
  a_for, a_iTup, a_iList, a_iStr, a_iRng1, a_iRng2, rng1, rng2, a_lc, a_yes, a_gTup, a_gCons, a_gNil, a_gSub, wipe, List.set_cons_zero, List.set_cons_succ,
  v0, v1, v2, v3, v4, v5, v6, v7, v8, v9, v10, n0, n1, n2, n3, n4, n5, n6, n7, n8, n9, n10, i_0, i_c, i_u, e_i, e_s, e_b, e_n, ne_i, ne_s, ne_b, tst, tsi, tss, tsr, Vl.s0, Vl.s1, Vl.s2, Vl.s3, Vl.s4, Vl.s5, List.map_cons, List.map_nil, List.length_cons, List.length_nil, List.replicate, List.cons_append, List.nil_append, Nat.reduceAdd, Nat.reduceSub, decide_eq_true_eq, ofS, String.reduceEq, decide_true, decide_false, Bool.false_eq_true, Bool.not_true, Bool.not_false, if_true, if_false])
local macro_rules | `(tactic| walk_at "wk") => `(tactic| simp only [L2.start, cxK, a_seq, a_next, a_asg, a_ret, a_retN, a_drop, a_ifS, a_break, a_cont, a_c, q_eq, q_ne, q_in, q_ix, q_i0, q_iC, a_un, a_nil, a_cons, a_tup, a_meth, a_make, a_cb, a_bm0, a_bm, a_fld, a_sfld, a_test, a_tB, a_and, a_or, a_not, a_if, a_sl, a_noPart, a_part,
  a_for, a_iTup, a_iList, a_iStr, a_iRng1, a_iRng2, rng1, rng2, a_lc, a_yes, a_gTup, a_gCons, a_gNil, a_gSub, wipe, List.set_cons_zero, List.set_cons_succ,
  v0, v1, v2, v3, v4, v5, v6, v7, v8, v9, v10, n0, n1, n2, n3, n4, n5, n6, n7, n8, n9, n10, i_0, i_c, i_u, e_i, e_s, e_b, e_n, ne_i, ne_s, ne_b, tst, tsi, tss, tsr, Vl.s0, Vl.s1, Vl.s2, Vl.s3, Vl.s4, Vl.s5, List.map_cons, List.map_nil, List.length_cons, List.length_nil, List.replicate, List.cons_append, List.nil_append, Nat.reduceAdd, Nat.reduceSub, decide_eq_true_eq, ofS, String.reduceEq, decide_true, decide_false, Bool.false_eq_true, Bool.not_true, Bool.not_false, if_true, if_false])
section
variable {P : Program} {w : World} {K : PySem.W.Frag} {mg : Str → Option Value} {base : Heap}
theorem ok_write_atom (T : Txt K mg) : OkF P w K mg base CX0 "write_atom" 3 ["atom"] (spW K DAt.d DAt.ok DAt.e) := by
  refine mkF T.d_write_atom T.g_write_atom sc_write_atom bw_write_atom (fun vs H Q E h => l1 h) (fun cdv A outer s H vs Q E hr h => ?_)
  obtain ⟨a, rfl, x, hd, ho, hl, k⟩ := h
  refine ⟨_, PSs.nox ((pss_cons (ps_if (pt_cmpR (op_inDT (hu65 hr)) (pv 0) (pgR T.c_PLAIN_ATOMS) (by rfl))
      (pss_one (ps_ret (pe_lst (pa_cons (pe_bm PySem.F.plainAttrs_tuple PySem.F.slot_tuple_index PySem.F.type_tuple_index (mt_tup_indexD (hu65 hr)) (pgR T.c_PLAIN_ATOMS) (pa_cons (pv 0) pa_nil)) pa_nil))))
      pss_nil)
    (pss_cons (ps_if (pt_cmpR op_eq (pe_ix ix_tup (pv 0) pe_int (fun _ _ => rfl)) pe_str (nomark _))
      (pss_one (ps_ret (pe_op op_cat (pe_lst (pa_cons pe_int pa_nil)) (fcall (ok_write_count T) (hr.mono (by decide)) pass0 (pa_cons (pe_ifExp (pt_cmpR op_ge (pe_ix ix_tup (pv 0) pe_int (fun _ _ => rfl)) pe_int (nomark _)) (pe_op op_mul pe_int (pe_ix ix_tup (pv 0) pe_int (fun _ _ => rfl))) (pe_op op_sub (pe_op op_mul (pe_un un_neg pe_int) (pe_ix ix_tup (pv 0) pe_int (fun _ _ => rfl))) pe_int)) pa_nil)))))
      pss_nil)
    (pss_cons (ps_if (pt_cmpR op_eq (pe_ix ix_tup (pv 0) pe_int (fun _ _ => rfl)) pe_str (nomark _))
      (pss_one (ps_ret (pe_op op_cat (pe_lst (pa_cons pe_int pa_nil)) (fcall (ok_write_text T) (hr.mono (by decide)) pass0 (pa_cons (pe_ix ix_tup (pv 0) pe_int (fun _ _ => rfl)) pa_nil)))))
      pss_nil)
    (pss_one (ps_ret (pe_op op_cat (pe_lst (pa_cons pe_int pa_nil)) (fcall (ok_write_reference T) (hr.mono (by decide)) pass0 (pa_cons (pv 0) pa_nil))))))))), ?_⟩
  have hP := T.t_PLAIN_ATOMS H
  have sP : SeqAt.shaped (.tuple [.tuple [.str "none"], .tuple [.str "bool", .bool false], .tuple [.str "bool", .bool true]]) = true := by decide +kernel
  cases x with
  | non =>
    obtain ⟨a, y, rfl, hS, h1⟩ := dT1 hd
    rw [dS] at h1
    subst h1
    walk_at "wp"
    refine ⟨DAt.d .non, _, hd, hP, at_shaped _, sP, true, congrArg V.bl (by decide +kernel), iteT ⟨T.y_PLAIN_ATOMS H, _, _, _, _, 0, _, rfl, rfl, hP, hd, sP, at_shaped _, rfl, by decide +kernel, fun m z hm => absurd hm (Nat.not_lt_zero _), by decide, fun p np => k _ _ (Same.new np) np upd_same⟩⟩
  | bl b =>
    obtain ⟨a, y, z, rfl, hS, h1, h2⟩ := dT2 hd
    rw [dS] at h1
    rw [dB] at h2
    subst h1 h2
    walk_at "wp"
    refine ⟨DAt.d (.bl b), _, hd, hP, at_shaped _, sP, true, congrArg V.bl (by cases b <;> decide +kernel), iteT ⟨T.y_PLAIN_ATOMS H, _, _, _, _, if b then 2 else 1, .tuple [.str "bool", .bool b], rfl, rfl, hP, hd, sP, at_shaped _, by cases b <;> rfl, by cases b <;> decide +kernel, ?_, by decide, fun p np => k _ _ (Same.new np) np ?_⟩⟩
    · intro m z hm e
      cases b
      · obtain rfl : m = 0 := by
          have : m < 1 := hm
          omega
        cases e
        decide +kernel
      · have hm2 : m < 2 := hm
        obtain rfl | rfl : m = 0 ∨ m = 1 := by omega
        · cases e
          decide +kernel
        · cases e
          decide +kernel
    · rw [upd_same]
      cases b <;> rfl
  | int i =>
    obtain ⟨a, y, z, rfl, hS, h1, h2⟩ := dT2 hd
    rw [dS] at h1
    rw [dI] at h2
    subst h1 h2
    have hl2 := hl
    simp only [DAt.e, List.length_cons] at hl2
    walk_at "wp"
    refine ⟨DAt.d (.int i), _, hd, hP, at_shaped _, sP, false, congrArg V.bl (by simp [DAt.d, PyData.eqv, PyData.eqvAll, beqS]), iteF (ix_t hS rfl ?_)⟩
    walk_at "wp"
    refine ⟨by decide, fun p np => ?_⟩
    have s0 := Same.new (o := .lst [.int 3]) np
    have hS0 := (TupKeep.of s0).sqT hS
    have e0 : upd H p (.lst [.int 3]) p = some (.lst (vints [3])) := upd_same
    refine ix_t hS0 rfl ?_
    walk_at "wp"
    split
    · rename_i c
      refine ix_t hS0 rfl ?_
      walk_at "wp"
      refine ⟨.inl ⟨by decide, by decide⟩, wcall (zig i) ?_ True.intro (by omega) fun p1 H1 s1 np1 e1 => ?_⟩
      · rw [pN, dI, zig, if_pos c]
        exact congrArg V.int (by omega)
      refine catw (s1 _ _ e0) e1 (by rw [List.length_append, List.length_singleton]; omega) fun p2 np2 => k _ _ (Same.put (s0.trans s1) ((s0.trans s1).free np2)) ((s0.trans s1).free np2) upd_same
    · rename_i c
      refine ix_t hS0 rfl ?_
      walk_at "wp"
      refine ⟨.inl ⟨by decide, by decide⟩, wcall (zig i) ?_ True.intro (by omega) fun p1 H1 s1 np1 e1 => ?_⟩
      · rw [pN, dI, zig, if_neg c]
        exact congrArg V.int (by omega)
      refine catw (s1 _ _ e0) e1 (by rw [List.length_append, List.length_singleton]; omega) fun p2 np2 => k _ _ (Same.put (s0.trans s1) ((s0.trans s1).free np2)) ((s0.trans s1).free np2) upd_same
  | txt ks =>
    obtain ⟨a, y, z, rfl, hS, h1, h2⟩ := dT2 hd
    rw [dS] at h1
    subst h1
    have hl2 := hl
    simp only [DAt.e, List.length_cons] at hl2
    walk_at "wp"
    refine ⟨DAt.d (.txt ks), _, hd, hP, at_shaped _, sP, false, congrArg V.bl (by simp [DAt.d, pS, PyData.eqv, PyData.eqvAll, beqS]), iteF (ix_t hS rfl ?_)⟩
    walk_at "wp"
    refine ix_t hS rfl ?_
    walk_at "wp"
    refine ⟨by decide, fun p np => ?_⟩
    have s0 := Same.new (o := .lst [.int 4]) np
    have e0 : upd H p (.lst [.int 4]) p = some (.lst (vints [4])) := upd_same
    refine ix_t ((TupKeep.of s0).sqT hS) rfl ?_
    refine wcall ks ((SeqKeep.of s0).dp h2) ho.1 (by omega) fun p1 H1 s1 np1 e1 => ?_
    refine catw (s1 _ _ e0) e1 (by rw [List.length_append, List.length_singleton]; omega) fun p2 np2 => k _ _ (Same.put (s0.trans s1) ((s0.trans s1).free np2)) ((s0.trans s1).free np2) upd_same
  | ref r =>
    obtain ⟨a, u, y, z, rfl, hS, h0, h1, h2⟩ := dT3 hd
    have h0' : u = .str (if r.p then "promise" else "object") := by rwa [dS] at h0
    have hl2 := hl
    simp only [DAt.e, List.length_cons] at hl2
    walk_at "wp"
    have en : ∀ d ∈ [PyData.tuple [PyData.str (Str.ofString "none")], PyData.tuple [PyData.str (Str.ofString "bool"), PyData.bool false], PyData.tuple [PyData.str (Str.ofString "bool"), PyData.bool true]], d.eqv (DAt.ref r).d = false := by
      intro d hm
      simp only [List.mem_cons, List.not_mem_nil, or_false] at hm
      obtain ⟨p, v, n⟩ := r
      rcases hm with rfl | rfl | rfl <;> cases p <;> simp [DAt.d, DRef.d, PyData.eqv, PyData.eqvAll, beqS]
    refine ⟨DAt.d (.ref r), _, hd, hP, at_shaped _, sP, false, congrArg V.bl (List.any_eq_false.mpr fun d hm => by rw [en d hm]; exact Bool.false_ne_true), iteF (ix_t hS rfl ?_)⟩
    subst h0'
    have ne : ∀ s : String, s ≠ "promise" → s ≠ "object" → (decide ((if r.p = true then Str.ofString "promise" else Str.ofString "object") = Str.ofString s)) = false := by
      intro s n1 n2
      apply decide_eq_false
      cases r.p
      · rw [if_neg Bool.false_ne_true, ofS]
        exact n2.symm
      · rw [if_pos rfl, ofS]
        exact n1.symm
    rw [e_s, ne "int" (by decide) (by decide)]
    refine ⟨false, rfl, iteF (ix_t hS rfl ?_)⟩
    rw [e_s, ne "text" (by decide) (by decide)]
    refine ⟨false, rfl, iteF ⟨by decide, fun p np => ?_⟩⟩
    have s0 := Same.new (o := .lst [.int 5]) np
    have e0 : upd H p (.lst [.int 5]) p = some (.lst (vints [5])) := upd_same
    refine wcall r ((SeqKeep.of s0).dp hd) True.intro (by omega) fun p1 H1 s1 np1 e1 => ?_
    refine catw (s1 _ _ e0) e1 (by rw [List.length_append, List.length_singleton]; omega) fun p2 np2 => k _ _ (Same.put (s0.trans s1) ((s0.trans s1).free np2)) ((s0.trans s1).free np2) upd_same
end
end Kt
set_option Elab.async false
set_option linter.all false
set_option maxRecDepth 100000
set_option maxHeartbeats 4000000
namespace Kt
open PySem PySem.Spec PyProof.Rows L2 Vl
local macro_rules | `(tactic| walk_at "wp") => `(tactic| simp only [L2.start, cxK, a_seq, a_next, a_asg, a_ret, a_retN, a_drop, a_ifS, a_break, a_cont, a_c, a_op, a_un, a_nil, a_cons, a_tup, a_lst, a_call, a_meth, a_make, a_cb, a_bm0, a_bm, a_fld, a_sfld, a_test, a_tB, a_and, a_or, a_not, a_if, a_sl, a_noPart, a_part,
  a_for, a_iTup, a_iList, a_iStr, a_iRng1, a_iRng2, rng1, rng2, a_lc, a_yes, a_gTup, a_gCons, a_gNil, a_gSub, wipe, List.set_cons_zero, List.set_cons_succ,
  v0, v1, v2, v3, v4, v5, v6, v7, v8, v9, v10, n0, n1, n2, n3, n4, n5, n6, n7, n8, n9, n10, i_0, i_c, i_u, e_i, e_s, e_b, e_n, ne_i, ne_s, ne_b, tst, tsi, tss, tsr, Vl.s0, Vl.s1, Vl.s2, Vl.s3, Vl.s4, Vl.s5, List.map_cons, List.map_nil, List.length_cons, List.length_nil, List.replicate, List.cons_append, List.nil_append, Nat.reduceAdd, Nat.reduceSub, decide_eq_true_eq, ofS, String.reduceEq, decide_true, decide_false, Bool.false_eq_true, Bool.not_true, Bool.not_false, if_true, if_false])
local macro_rules | `(tactic| walk_at "wk") => `(tactic| simp only [L2.start, cxK, a_seq, a_next, a_asg, a_ret, a_retN, a_drop, a_ifS, a_break, a_cont, a_c, q_eq, q_ne, q_in, q_ix, q_i0, q_iC, a_un, a_nil, a_cons, a_tup, a_meth, a_make, a_cb, a_bm0, a_bm, a_fld, a_sfld, a_test, a_tB, a_and, a_or, a_not, a_if, a_sl, a_noPart, a_part,
  a_for, a_iTup, a_iList, a_iStr, a_iRng1, a_iRng2, rng1, rng2, a_lc, a_yes, a_gTup, a_gCons, a_gNil, a_gSub, wipe, List.set_cons_zero, List.set_cons_succ,
  v0, v1, v2, v3, v4, v5, v6, v7, v8, v9, v10, n0, n1, n2, n3, n4, n5, n6, n7, n8, n9, n10, i_0, i_c, i_u, e_i, e_s, e_b, e_n, ne_i, ne_s, ne_b, tst, tsi, tss, tsr, Vl.s0, Vl.s1, Vl.s2, Vl.s3, Vl.s4, Vl.s5, List.map_cons, List.map_nil, List.length_cons, List.length_nil, List.replicate, List.cons_append, List.nil_append, Nat.reduceAdd, Nat.reduceSub, decide_eq_true_eq, ofS, String.reduceEq, decide_true, decide_false, Bool.false_eq_true, Bool.not_true, Bool.not_false, if_true, if_false])
section
variable {P : Program} {w : World} {K : PySem.W.Frag} {mg : Str → Option Value} {base : Heap}
theorem ok_write_value (T : Txt K mg) : OkF P w K mg base CX0 "write_value" 4 ["value"] (spW K DVa.d DVa.ok DVa.e) := by
  refine mkF T.d_write_value T.g_write_value sc_write_value bw_write_value (fun vs H Q E h => l1 h) (fun cdv A outer s H vs Q E hr h => ?_)
  obtain ⟨a, rfl, x, hd, ho, hl, k⟩ := h
  refine ⟨_, PSs.nox ((pss_cons (ps_if (pt_cmpR op_ne (pe_ix ix_tup (pv 0) pe_int (fun _ _ => rfl)) pe_str (nomark _))
      (pss_one (ps_ret (pe_op op_cat (pe_lst (pa_cons pe_int pa_nil)) (fcall (ok_write_atom T) (hr.mono (by decide)) pass0 (pa_cons (pv 0) pa_nil)))))
      pss_nil)
    (pss_cons (ps_set (i := 1) sc_write_value.nd rfl (by first | exact Or.inl rfl | exact Or.inr rfl) (pe_op op_cat (pe_lst (pa_cons pe_int pa_nil)) (fcall (ok_write_count T) (hr.mono (by decide)) pass0 (pa_cons (pe_callB call_len_seq (by rfl) T.n_len PySem.boot_len (pa_cons (pe_ix ix_tup (pv 0) pe_int (fun _ _ => rfl)) pa_nil)) pa_nil))))
    (pss_cons (ps_for PassesOwn.never rfl (pi_tup (pe_ix ix_tup (pv 0) pe_int (fun _ _ => rfl))) (pg_name (i := 2) sc_write_value.nd rfl (by first | exact Or.inl rfl | exact Or.inr rfl))
      (pss_one (ps_expr (pe_bm PySem.F.plainAttrs_list PySem.F.slot_list_extend PySem.F.type_list_extend mt_extend (pv 1) (pa_cons (fcall (ok_write_atom T) (hr.mono (by decide)) pass0 (pa_cons (pv 2) pa_nil)) pa_nil)))))
    (pss_one (ps_ret (pv 1))))))), ?_⟩
  cases x with
  | one at_ =>
    have hl2 := hl
    simp only [DVa.e, List.length_cons] at hl2
    obtain ⟨a, xs, rfl, hS, hx⟩ := at_head _ hd
    walk_at "wp"
    refine ix_t hS (atI_nat (j := 0) hx) ?_
    rw [ne_s, decide_eq_false (show ¬ Str.ofString at_.kd = Str.ofString "list" by rw [ofS]; exact kd_list _)]
    refine ⟨true, rfl, iteT ⟨by decide, fun p np => ?_⟩⟩
    have s0 := Same.new (o := .lst [.int 0]) np
    have e0 : upd H p (.lst [.int 0]) p = some (.lst (vints [0])) := upd_same
    refine wcall at_ ((SeqKeep.of s0).dp hd) ho (by omega) fun p1 H1 s1 np1 e1 => ?_
    refine catw (s1 _ _ e0) e1 (by rw [List.length_append, List.length_singleton]; omega) fun p2 np2 => k _ _ (Same.put (s0.trans s1) ((s0.trans s1).free np2)) ((s0.trans s1).free np2) upd_same
  | lst as =>
    obtain ⟨a, y, z, rfl, hS, h1, h2⟩ := dT2 hd
    rw [dS] at h1
    subst h1
    rw [dT] at h2
    obtain ⟨b, xs, rfl, hB, hA⟩ := h2
    have hx : xs.length = as.length := by rw [DpAll.length hA, List.length_map]
    have hl2 := hl
    simp only [DVa.e, rowd, List.length_cons, List.length_append] at hl2
    walk_at "wp"
    refine ix_t hS rfl ?_
    walk_at "wp"
    refine ⟨by decide, fun p np => ?_⟩
    have s0 := Same.new (o := .lst [.int 1]) np
    have e0 : upd H p (.lst [.int 1]) p = some (.lst (vints [1])) := upd_same
    refine ix_t ((TupKeep.of s0).sqT hS) rfl ⟨b, xs, rfl, .inr ((TupKeep.of s0).sqT hB), ?_⟩
    rw [hx]
    refine wcall as.length (.int _) True.intro (by omega) fun p1 H1 s1 np1 e1 => ?_
    refine catw (s1 _ _ e0) e1 (by rw [List.length_append, List.length_singleton]; omega) fun p2 np2 => ?_
    have s2 := Same.put (o := .lst (vints ([1] ++ cntd as.length))) (s0.trans s1) ((s0.trans s1).free np2)
    refine ix_t ((TupKeep.of s2).sqT hS) rfl ?_
    walk_at "wp"
    refine forExt (H0 := H) (e := DAt.e) as (fun y => [some (.ref a), some (.ref p2), y]) none ([1] ++ cntd as.length) ((TupKeep.of s2).sqT hB) ((SeqKeep.of s2).dpAll hA) ho.2 rfl upd_same s2 ((s0.trans s1).free np2) ?_ (noLs_of nl_at _) (fun N x y H3 ht hs => ?_) (fun y H3 s3 _ e3 => ?_)
    · simp only [List.length_append, List.length_singleton]
      omega
    · walk_at "wp"
      exact ⟨ht, hs⟩
    · walk_at "wp"
      refine k _ _ s3 ((s0.trans s1).free np2) ?_
      rw [e3, DVa.e, rowd, List.append_assoc]
      rfl
theorem ok_write_weights (T : Txt K mg) : OkF P w K mg base CX0 "write_weights" 3 ["weights"] (spW K (fun ws : List DWt => .tuple (ws.map DWt.d)) (fun _ => True) (rowd DWt.en)) := by
  refine mkF T.d_write_weights T.g_write_weights sc_write_weights bw_write_weights (fun vs H Q E h => l1 h) (fun cdv A outer s H vs Q E hr h => ?_)
  obtain ⟨a, rfl, ws, hd, ho, hl, k⟩ := h
  refine ⟨_, PSs.nox ((pss_cons (ps_set (i := 1) sc_write_weights.nd rfl (by first | exact Or.inl rfl | exact Or.inr rfl) (fcall (ok_write_count T) (hr.mono (by decide)) pass0 (pa_cons (pe_callB call_len_seq (by rfl) T.n_len PySem.boot_len (pa_cons (pv 0) pa_nil)) pa_nil)))
    (pss_cons (ps_for PassesOwn.never rfl (pi_tup (pv 0)) (pg_name (i := 2) sc_write_weights.nd rfl (by first | exact Or.inl rfl | exact Or.inr rfl))
      (pss_one (ps_expr (pe_bm PySem.F.plainAttrs_list PySem.F.slot_list_extend PySem.F.type_list_extend mt_extend (pv 1) (pa_cons (fcall (ok_write_weight T) (hr.mono (by decide)) pass0 (pa_cons (pv 2) pa_nil)) pa_nil)))))
    (pss_one (ps_ret (pv 1)))))), ?_⟩
  rw [dT] at hd
  obtain ⟨b, xs, rfl, hB, hA⟩ := hd
  have hx : xs.length = ws.length := by rw [DpAll.length hA, List.length_map]
  have hl2 := hl
  simp only [rowd, List.length_append] at hl2
  walk_at "wp"
  refine ⟨b, xs, rfl, .inr hB, ?_⟩
  rw [hx]
  refine wcall ws.length (.int _) True.intro (by omega) fun p1 H1 s1 np1 e1 => ?_
  refine forExt (H0 := H) (e := DWt.en) ws (fun y => [some (.ref b), some (.ref p1), y]) none (cntd ws.length) ((TupKeep.of s1).sqT hB) ((SeqKeep.of s1).dpAll hA) (fun _ _ => True.intro) rfl e1 s1 np1 ?_ (noLs_of nl_wt _) (fun N x y H3 ht hs => ?_) (fun y H3 s3 _ e3 => ?_)
  · simp only [List.length_append]
    omega
  · walk_at "wp"
    exact ⟨ht, hs⟩
  · walk_at "wp"
    exact k _ _ s3 np1 e3
theorem ok_write_values (T : Txt K mg) : OkF P w K mg base CX0 "write_values" 5 ["values"] (spW K (fun ws : List DVa => .tuple (ws.map DVa.d)) (fun ws => ∀ x ∈ ws, x.ok) (rowd DVa.e)) := by
  refine mkF T.d_write_values T.g_write_values sc_write_values bw_write_values (fun vs H Q E h => l1 h) (fun cdv A outer s H vs Q E hr h => ?_)
  obtain ⟨a, rfl, ws, hd, ho, hl, k⟩ := h
  refine ⟨_, PSs.nox ((pss_cons (ps_set (i := 1) sc_write_values.nd rfl (by first | exact Or.inl rfl | exact Or.inr rfl) (fcall (ok_write_count T) (hr.mono (by decide)) pass0 (pa_cons (pe_callB call_len_seq (by rfl) T.n_len PySem.boot_len (pa_cons (pv 0) pa_nil)) pa_nil)))
    (pss_cons (ps_for PassesOwn.never rfl (pi_tup (pv 0)) (pg_name (i := 2) sc_write_values.nd rfl (by first | exact Or.inl rfl | exact Or.inr rfl))
      (pss_one (ps_expr (pe_bm PySem.F.plainAttrs_list PySem.F.slot_list_extend PySem.F.type_list_extend mt_extend (pv 1) (pa_cons (fcall (ok_write_value T) (hr.mono (by decide)) pass0 (pa_cons (pv 2) pa_nil)) pa_nil)))))
    (pss_one (ps_ret (pv 1)))))), ?_⟩
  rw [dT] at hd
  obtain ⟨b, xs, rfl, hB, hA⟩ := hd
  have hx : xs.length = ws.length := by rw [DpAll.length hA, List.length_map]
  have hl2 := hl
  simp only [rowd, List.length_append] at hl2
  walk_at "wp"
  refine ⟨b, xs, rfl, .inr hB, ?_⟩
  rw [hx]
  refine wcall ws.length (.int _) True.intro (by omega) fun p1 H1 s1 np1 e1 => ?_
  refine forExt (H0 := H) (e := DVa.e) ws (fun y => [some (.ref b), some (.ref p1), y]) none (cntd ws.length) ((TupKeep.of s1).sqT hB) ((SeqKeep.of s1).dpAll hA) ho rfl e1 s1 np1 ?_ (noLs_of nl_va _) (fun N x y H3 ht hs => ?_) (fun y H3 s3 _ e3 => ?_)
  · simp only [List.length_append]
    omega
  · walk_at "wp"
    exact ⟨ht, hs⟩
  · walk_at "wp"
    exact k _ _ s3 np1 e3
theorem ok_write_references (T : Txt K mg) : OkF P w K mg base CX0 "write_references" 3 ["row"] (spW K (fun ws : List DRef => .tuple (ws.map DRef.d)) (fun _ => True) (rowd DRef.e)) := by
  refine mkF T.d_write_references T.g_write_references sc_write_references bw_write_references (fun vs H Q E h => l1 h) (fun cdv A outer s H vs Q E hr h => ?_)
  obtain ⟨a, rfl, ws, hd, ho, hl, k⟩ := h
  refine ⟨_, PSs.nox ((pss_cons (ps_set (i := 1) sc_write_references.nd rfl (by first | exact Or.inl rfl | exact Or.inr rfl) (fcall (ok_write_count T) (hr.mono (by decide)) pass0 (pa_cons (pe_callB call_len_seq (by rfl) T.n_len PySem.boot_len (pa_cons (pv 0) pa_nil)) pa_nil)))
    (pss_cons (ps_for PassesOwn.never rfl (pi_tup (pv 0)) (pg_name (i := 2) sc_write_references.nd rfl (by first | exact Or.inl rfl | exact Or.inr rfl))
      (pss_one (ps_expr (pe_bm PySem.F.plainAttrs_list PySem.F.slot_list_extend PySem.F.type_list_extend mt_extend (pv 1) (pa_cons (fcall (ok_write_reference T) (hr.mono (by decide)) pass0 (pa_cons (pv 2) pa_nil)) pa_nil)))))
    (pss_one (ps_ret (pv 1)))))), ?_⟩
  rw [dT] at hd
  obtain ⟨b, xs, rfl, hB, hA⟩ := hd
  have hx : xs.length = ws.length := by rw [DpAll.length hA, List.length_map]
  have hl2 := hl
  simp only [rowd, List.length_append] at hl2
  walk_at "wp"
  refine ⟨b, xs, rfl, .inr hB, ?_⟩
  rw [hx]
  refine wcall ws.length (.int _) True.intro (by omega) fun p1 H1 s1 np1 e1 => ?_
  refine forExt (H0 := H) (e := DRef.e) ws (fun y => [some (.ref b), some (.ref p1), y]) none (cntd ws.length) ((TupKeep.of s1).sqT hB) ((SeqKeep.of s1).dpAll hA) (fun _ _ => True.intro) rfl e1 s1 np1 ?_ (noLs_of nl_ref _) (fun N x y H3 ht hs => ?_) (fun y H3 s3 _ e3 => ?_)
  · simp only [List.length_append]
    omega
  · walk_at "wp"
    exact ⟨ht, hs⟩
  · walk_at "wp"
    exact k _ _ s3 np1 e3
theorem ok_write_program (T : Txt K mg) : OkF P w K mg base CX0 "write_program" 2 ["text"] (spW K pS Tn eS) := by
  refine mkF T.d_write_program T.g_write_program sc_write_program bw_write_program (fun vs H Q E h => l1 h) (fun cdv A outer s H vs Q E hr h => ?_)
  obtain ⟨a, rfl, ks, hd, ht, hl, k⟩ := h
  refine ⟨_, PSs.nox ((pss_cons (ps_set (i := 1) sc_write_program.nd rfl (by first | exact Or.inl rfl | exact Or.inr rfl) (fcall (ok_write_count T) (hr.mono (by decide)) pass0 (pa_cons (pe_callB call_len_str (by rfl) T.n_len PySem.boot_len (pa_cons (pv 0) pa_nil)) pa_nil)))
    (pss_cons (ps_for PassesOwn.never rfl (pi_str (pv 0)) (pg_name (i := 2) sc_write_program.nd rfl (by first | exact Or.inl rfl | exact Or.inr rfl))
      (pss_one (ps_expr (pe_bm PySem.F.plainAttrs_list PySem.F.slot_list_append PySem.F.type_list_append mt_append (pv 1) (pa_cons (pe_ifExp (pt_cmpR op_eq (pv 2) pe_str (nomark _)) (pgI T.c_NEWLINE) (pe_bm PySem.F.plainAttrs_str PySem.F.slot_str_index PySem.F.type_str_index mt_sindex (pgS T.c_CHARACTERS) (pa_cons (pv 2) pa_nil))) pa_nil)))))
    (pss_one (ps_ret (pv 1)))))), ?_⟩
  rw [pS, dS] at hd
  subst hd
  have hl2 := hl
  rw [eS, List.length_append, List.length_map] at hl2
  walk_at "wp"
  refine ⟨_, rfl, by rw [ofIx_len]; exact le1000000 (by omega), ?_⟩
  rw [ofIx_len]
  refine wcall ks.length (.int _) True.intro (by omega) fun p H1 s1 np e1 => ?_
  refine forS (fun i σ H2 => ∃ y, σ = [some (.str (ofIx ks)), some (.ref p), y] ∧ H2 p = some (.lst (vints (cntd ks.length ++ (ks.take i).map nat))) ∧ Same H H2) ⟨_, rfl, ?_, s1⟩ ?_ ?_
  · rw [e1, List.take_zero, List.map_nil, List.append_nil]
  · rintro i c σ H2 hc ⟨y, rfl, e2, s2⟩
    rw [ofIx_list, List.getElem?_map] at hc
    cases hk : ks[i]? with
    | none =>
      rw [hk] at hc
      cases hc
    | some j =>
      rw [hk] at hc
      cases hc
      have hj := ht j (List.mem_of_getElem? hk)
      have fin : ∀ y, H2 p = some (.lst (vints (cntd ks.length ++ (ks.take i).map nat))) → rAppend (.ref p) [.int (j : Int)] H2 fun _ H3 => ∃ y', [some (V.str (ofIx ks)), some (V.ref p), y] = [some (V.str (ofIx ks)), some (V.ref p), y'] ∧ H3 p = some (.lst (vints (cntd ks.length ++ (ks.take (i + 1)).map nat))) ∧ Same H H3 := fun y e2 => by
        refine appw e2 ?_ ⟨_, rfl, ?_, Same.put s2 np⟩
        · simp only [List.length_append, List.length_map, List.length_take]
          omega
        · rw [upd_same, List.take_add_one, hk, List.map_append, List.append_assoc]
          rfl
      walk_at "wp"
      refine ⟨ty_lst (.of e2), ?_⟩
      split
      · rename_i c
        rw [nl_ix] at c
        have e94 : j = 94 := by
          have : (ofIx [94] : Str).cps = #[sgAt 94] := rfl
          have c2 : #[sgAt j] = #[sgAt 94] := by
            rw [← this]
            exact congrArg Str.cps c
          have c3 : sgAt j = sgAt 94 := by simpa using c2
          exact sgAt_inj j hj 94 (by decide) c3
        subst e94
        exact fin _ e2
      · rename_i c
        have j94 : j < 94 := by
          have : j ≠ 94 := fun e => c (by rw [e]; decide +kernel)
          omega
        exact ⟨rfl, idxw (P := fun k => rAppend (V.ref p) [V.int (k : Int)] H2 _) j94 (fin _ e2)⟩
  · rintro σ H2 ⟨y, rfl, e2, s2⟩
    walk_at "wp"
    refine k _ _ s2 np ?_
    rw [e2, ofIx_list, List.length_map, List.take_length]
    rfl
end
end Kt
set_option Elab.async false
set_option linter.all false
set_option maxRecDepth 100000
set_option maxHeartbeats 4000000
namespace Kt
open PySem PySem.Spec PyProof.Rows L2 Vl
local macro_rules | `(tactic| walk_at "wp") => `(tactic| simp only [L2.start, cxK, a_seq, a_next, a_asg, a_ret, a_retN, a_drop, a_ifS, a_break, a_cont, a_c, a_op, a_un, a_nil, a_cons, a_tup, a_lst, a_call, a_meth, a_make, a_cb, a_bm0, a_bm, a_fld, a_sfld, a_test, a_tB, a_and, a_or, a_not, a_if, a_sl, a_noPart, a_part,
  a_for, a_iTup, a_iList, a_iStr, a_iRng1, a_iRng2, rng1, rng2, a_lc, a_yes, a_gTup, a_gCons, a_gNil, a_gSub, wipe, List.set_cons_zero, List.set_cons_succ,
  v0, v1, v2, v3, v4, v5, v6, v7, v8, v9, v10, n0, n1, n2, n3, n4, n5, n6, n7, n8, n9, n10, i_0, i_c, i_u, e_i, e_s, e_b, e_n, ne_i, ne_s, ne_b, tst, tsi, tss, tsr, Vl.s0, Vl.s1, Vl.s2, Vl.s3, Vl.s4, Vl.s5, List.map_cons, List.map_nil, List.length_cons, List.length_nil, List.replicate, List.cons_append, List.nil_append, Nat.reduceAdd, Nat.reduceSub, decide_eq_true_eq, ofS, String.reduceEq, decide_true, decide_false, Bool.false_eq_true, Bool.not_true, Bool.not_false, if_true, if_false])
local macro_rules | `(tactic| walk_at "wk") => `(tactic| simp only [L2.start, cxK, a_seq, a_next, a_asg, a_ret, a_retN, a_drop, a_ifS, a_break, a_cont, a_c, q_eq, q_ne, q_in, q_ix, q_i0, q_iC, a_un, a_nil, a_cons, a_tup, a_meth, a_make, a_cb, a_bm0, a_bm, a_fld, a_sfld, a_test, a_tB, a_and, a_or, a_not, a_if, a_sl, a_noPart, a_part,
  a_for, a_iTup, a_iList, a_iStr, a_iRng1, a_iRng2, rng1, rng2, a_lc, a_yes, a_gTup, a_gCons, a_gNil, a_gSub, wipe, List.set_cons_zero, List.set_cons_succ,
  v0, v1, v2, v3, v4, v5, v6, v7, v8, v9, v10, n0, n1, n2, n3, n4, n5, n6, n7, n8, n9, n10, i_0, i_c, i_u, e_i, e_s, e_b, e_n, ne_i, ne_s, ne_b, tst, tsi, tss, tsr, Vl.s0, Vl.s1, Vl.s2, Vl.s3, Vl.s4, Vl.s5, List.map_cons, List.map_nil, List.length_cons, List.length_nil, List.replicate, List.cons_append, List.nil_append, Nat.reduceAdd, Nat.reduceSub, decide_eq_true_eq, ofS, String.reduceEq, decide_true, decide_false, Bool.false_eq_true, Bool.not_true, Bool.not_false, if_true, if_false])
section
variable {P : Program} {w : World} {K : PySem.W.Frag} {mg : Str → Option Value} {base : Heap}
theorem ok_write_message (T : Txt K mg) : OkF P w K mg base CX0 "write_message" 5 ["message"] (spW K DMsg.d DMsg.ok DMsg.e) := by
  refine mkF T.d_write_message T.g_write_message sc_write_message bw_write_message (fun vs H Q E h => l1 h) (fun cdv A outer s H vs Q E hr h => ?_)
  obtain ⟨a, rfl, m, hd, ho, hl, k⟩ := h
  refine ⟨_, PSs.nox ((pss_cons (ps_asg (pv 0) (pg_tup rfl (pgs_cons (pg_name (i := 1) sc_write_message.nd rfl (by first | exact Or.inl rfl | exact Or.inr rfl)) (pgs_cons (pg_name (i := 2) sc_write_message.nd rfl (by first | exact Or.inl rfl | exact Or.inr rfl)) (pgs_cons (pg_name (i := 3) sc_write_message.nd rfl (by first | exact Or.inl rfl | exact Or.inr rfl)) (pgs_cons (pg_name (i := 4) sc_write_message.nd rfl (by first | exact Or.inl rfl | exact Or.inr rfl)) (pgs_cons (pg_name (i := 5) sc_write_message.nd rfl (by first | exact Or.inl rfl | exact Or.inr rfl)) (pgs_cons (pg_name (i := 6) sc_write_message.nd rfl (by first | exact Or.inl rfl | exact Or.inr rfl)) pgs_nil))))))))
    (pss_cons (ps_set (i := 7) sc_write_message.nd rfl (by first | exact Or.inl rfl | exact Or.inr rfl) (pe_op op_cat (pe_op op_cat (pe_op op_cat (fcall (ok_write_send T) (hr.mono (by decide)) pass0 (pa_cons (pv 1) pa_nil)) (fcall (ok_write_reference T) (hr.mono (by decide)) pass0 (pa_cons (pv 2) pa_nil))) (fcall (ok_write_count T) (hr.mono (by decide)) pass0 (pa_cons (pv 3) pa_nil))) (fcall (ok_write_text T) (hr.mono (by decide)) pass0 (pa_cons (pv 4) pa_nil))))
    (pss_cons (ps_expr (pe_bm PySem.F.plainAttrs_list PySem.F.slot_list_extend PySem.F.type_list_extend mt_extend (pv 7) (pa_cons (fcall (ok_write_count T) (hr.mono (by decide)) pass0 (pa_cons (pe_callB call_len_seq (by rfl) T.n_len PySem.boot_len (pa_cons (pv 5) pa_nil)) pa_nil)) pa_nil)))
    (pss_cons (ps_for PassesOwn.never rfl (pi_tup (pv 5)) (pg_name (i := 8) sc_write_message.nd rfl (by first | exact Or.inl rfl | exact Or.inr rfl))
      (pss_one (ps_expr (pe_bm PySem.F.plainAttrs_list PySem.F.slot_list_extend PySem.F.type_list_extend mt_extend (pv 7) (pa_cons (fcall (ok_write_value T) (hr.mono (by decide)) pass0 (pa_cons (pv 8) pa_nil)) pa_nil)))))
    (pss_cons (ps_expr (pe_bm PySem.F.plainAttrs_list PySem.F.slot_list_extend PySem.F.type_list_extend mt_extend (pv 7) (pa_cons (fcall (ok_write_count T) (hr.mono (by decide)) pass0 (pa_cons (pe_callB call_len_seq (by rfl) T.n_len PySem.boot_len (pa_cons (pv 6) pa_nil)) pa_nil)) pa_nil)))
    (pss_cons (ps_for PassesOwn.never rfl (pi_tup (pv 6)) (pg_name (i := 9) sc_write_message.nd rfl (by first | exact Or.inl rfl | exact Or.inr rfl))
      (pss_one (ps_expr (pe_bm PySem.F.plainAttrs_list PySem.F.slot_list_extend PySem.F.type_list_extend mt_extend (pv 7) (pa_cons (fcall (ok_write_send T) (hr.mono (by decide)) pass0 (pa_cons (pv 9) pa_nil)) pa_nil)))))
    (pss_one (ps_ret (pv 7)))))))))), ?_⟩
  obtain ⟨a, x1, x2, x3, x4, x5, x6, rfl, hS, h1, h2, h3, h4, h5, h6⟩ := dT6 hd
  rw [dT] at h5 h6
  obtain ⟨b5, xs5, rfl, hS5, hA5⟩ := h5
  obtain ⟨b6, xs6, rfl, hS6, hA6⟩ := h6
  have hx5 : xs5.length = m.args.length := by rw [DpAll.length hA5, List.length_map]
  have hx6 : xs6.length = m.path.length := by rw [DpAll.length hA6, List.length_map]
  have hl2 := hl
  simp only [DMsg.e, rowd, List.length_append] at hl2
  walk_at "wk"
  refine ⟨a, _, rfl, hS, rfl, ?_⟩
  walk_at "wk"
  refine Gv.go (.cat (.cat (.cat (.call m.send (.var rfl h1) True.intro) (.call m.target (.var rfl h2) True.intro)) (.call m.place (.var rfl h3) True.intro)) (.call m.method (.var rfl h4) (fun k hk => Nat.lt_trans (ho.2.2.2.1.1 k hk).2 (by decide)))) rfl (by simp only [List.length_append]; omega) (Same.refl H) fun p H1 s1 np1 e1 => ?_
  walk_at "wp"
  refine ⟨ty_lst (.of e1), b5, xs5, rfl, .inr ((TupKeep.of s1).sqT hS5), ?_⟩
  rw [hx5]
  refine wcall m.args.length (.int _) True.intro (by omega) fun p2 H2 s2 np2 e2 => extw (s2 _ _ e1) e2 (by simp only [List.length_append]; omega) ?_
  have t2 := Same.put (o := .lst (vints (m.send.e ++ m.target.e ++ cntd m.place ++ eS m.method ++ cntd m.args.length))) (s1.trans s2) np1
  refine forExt (H0 := H) (e := DVa.e) m.args (fun y => [some (.ref a), some x1, some x2, some x3, some x4, some (.ref b5), some (.ref b6), some (.ref p), y, none]) none _ ((TupKeep.of t2).sqT hS5) ((SeqKeep.of t2).dpAll hA5) ho.2.2.2.2.1.2 rfl upd_same t2 np1 ?_ (noLs_of nl_va _) (fun N x y H3 ht hs => ?_) (fun y H3 s3 _ e3 => ?_)
  · simp only [List.length_append]
    omega
  · walk_at "wp"
    exact ⟨ht, hs⟩
  walk_at "wp"
  refine ⟨ty_lst (.of e3), b6, xs6, rfl, .inr ((TupKeep.of s3).sqT hS6), ?_⟩
  rw [hx6]
  refine wcall m.path.length (.int _) True.intro (by omega) fun p4 H4 s4 np4 e4 => extw (s4 _ _ e3) e4 (by simp only [List.length_append]; omega) ?_
  have t4 := Same.put (o := .lst (vints (m.send.e ++ m.target.e ++ cntd m.place ++ eS m.method ++ cntd m.args.length ++ m.args.flatMap DVa.e ++ cntd m.path.length))) (s3.trans s4) np1
  refine forExt (H0 := H) (e := DSd.e) m.path (fun z => [some (.ref a), some x1, some x2, some x3, some x4, some (.ref b5), some (.ref b6), some (.ref p), y, z]) none _ ((TupKeep.of t4).sqT hS6) ((SeqKeep.of t4).dpAll hA6) (fun _ _ => True.intro) rfl upd_same t4 np1 ?_ (noLs_of nl_sd _) (fun N x y H3 ht hs => ?_) (fun z H5 s5 _ e5 => ?_)
  · simp only [List.length_append]
    omega
  · walk_at "wp"
    exact ⟨ht, hs⟩
  walk_at "wp"
  refine k _ _ s5 np1 ?_
  rw [e5, DMsg.e, rowd, rowd]
  simp only [List.append_assoc]
theorem ok_write_target (T : Txt K mg) : OkF P w K mg base CX0 "write_target" 2 ["target"] (spW K DTg.d DTg.ok DTg.e) := by
  refine mkF T.d_write_target T.g_write_target sc_write_target bw_write_target (fun vs H Q E h => l1 h) (fun cdv A outer s H vs Q E hr h => ?_)
  obtain ⟨a, rfl, t, hd, ho, hl, k⟩ := h
  refine ⟨_, PSs.nox ((pss_cons (ps_set (i := 1) sc_write_target.nd rfl (by first | exact Or.inl rfl | exact Or.inr rfl) (pe_lst (pa_cons (pe_bm PySem.F.plainAttrs_tuple PySem.F.slot_tuple_index PySem.F.type_tuple_index mt_tup_index (pgR T.c_TARGETS) (pa_cons (pe_ix ix_tup (pv 0) pe_int (fun _ _ => rfl)) pa_nil)) pa_nil)))
    (pss_cons (ps_for PassesOwn.never rfl (pi_tup (pe_slice sl_tup (pv 0) (po_some pe_int) po_none)) (pg_name (i := 2) sc_write_target.nd rfl (by first | exact Or.inl rfl | exact Or.inr rfl))
      (pss_one (ps_expr (pe_bm PySem.F.plainAttrs_list PySem.F.slot_list_extend PySem.F.type_list_extend mt_extend (pv 1) (pa_cons (fcall (ok_write_count T) (hr.mono (by decide)) pass0 (pa_cons (pv 2) pa_nil)) pa_nil)))))
    (pss_one (ps_ret (pv 1)))))), ?_⟩
  have hk : ∃ b xs, ∃ ns : List Nat, ∃ z, ∃ j : Nat, a = .ref b ∧ SqT K H b (.str z :: xs) ∧ DpAll K H xs (ns.map pN) ∧ 1 ≤ xs.length ∧ t.e = (j : Int) :: ns.flatMap cntd ∧ ([("object" : Str), "promise", "answer"] : List Str)[j]? = some z ∧ ∀ m, m < j → ([("object" : Str), "promise", "answer"] : List Str)[m]? ≠ some z := by
    cases t with
    | obj n =>
      obtain ⟨b, x, y, rfl, hS, h1, h2⟩ := dT2 hd
      rw [dS] at h1
      subst h1
      exact ⟨b, [y], [n], _, 0, rfl, hS, .cons h2 .nil, Nat.le_refl _, by simp [DTg.e], rfl, by decide +kernel⟩
    | prom n =>
      obtain ⟨b, x, y, rfl, hS, h1, h2⟩ := dT2 hd
      rw [dS] at h1
      subst h1
      exact ⟨b, [y], [n], _, 1, rfl, hS, .cons h2 .nil, Nat.le_refl _, by simp [DTg.e], rfl, by decide +kernel⟩
    | ans v q =>
      obtain ⟨b, x, y, z, rfl, hS, h1, h2, h3⟩ := dT3 hd
      rw [dS] at h1
      subst h1
      exact ⟨b, [y, z], [v, q], _, 2, rfl, hS, .cons h2 (.cons h3 .nil), Nat.le_add_left 1 1, by simp [DTg.e], rfl, by decide +kernel⟩
  obtain ⟨b, xs, ns, z, j, rfl, hS, hA, hne, he, hj, hn⟩ := hk
  have hT := sqT_strs (ys := ["object", "promise", "answer"]) (T.t_TARGETS H)
  rw [he] at hl k
  walk_at "wp"
  refine ⟨T.y_TARGETS _, ix_t hS (atI_nat (j := 0) rfl) (tidx _ j hT hj hn ⟨by decide, fun p0 n0 => ?_⟩)⟩
  have s0 := Same.new (o := .lst (vints [(j : Int)])) n0
  refine ⟨b, _, rfl, (TupKeep.of s0).sqT hS, ?_, fun p1 n1 => ?_⟩
  · rw [show HT.sIx (V.str z :: xs).length 0 (some 1) = 1 by
      rw [show (1 : Int) = ((1 : Nat) : Int) from rfl, HT.sIx_nat, List.length_cons]
      omega]
    omega
  have n01 : p1 ≠ p0 := fun e => by
    rw [e, upd_same] at n1
    cases n1
  have s1 : Same H (upd (upd H p0 (.lst (vints [(j : Int)]))) p1 (.tup xs)) := Same.put s0 (s0.free n1)
  have e0 : (upd (upd H p0 (.lst (vints [(j : Int)]))) p1 (.tup xs)) p0 = some (.lst (vints [(j : Int)])) := by rw [upd_ne (Ne.symm n01), upd_same]
  rw [show cutV (V.str z :: xs) (some 1) none = xs by
    unfold cutV
    rw [show HT.sIx (V.str z :: xs).length 0 (some 1) = 1 by
      rw [show (1 : Int) = ((1 : Nat) : Int) from rfl, HT.sIx_nat, List.length_cons]
      omega, HT.sIx_none, List.drop_succ_cons, List.drop_zero, List.length_cons, Nat.add_sub_cancel, List.take_length]]
  refine ⟨p1, rfl, forExt (H0 := H) (e := cntd) ns (fun y => [some (.ref b), some (.ref p0), y]) none [(j : Int)] (.of upd_same) ((SeqKeep.of s1).dpAll hA) (fun _ _ => True.intro) rfl e0 s1 n0 (by simpa using hl) (noLs_of nl_n _) (fun N x y H3 ht hs => ?_) (fun y H3 s3 _ e3 => ?_)⟩
  · walk_at "wp"
    exact ⟨ht, hs⟩
  · walk_at "wp"
    exact k _ _ s3 n0 e3
theorem ok_write_content_packets (T : Txt K mg) : OkF P w K mg base CX0 "write_content_packets" 6 ["content"] (spW K DCo.d DCo.ok DCo.e) := by
  refine mkF T.d_write_content_packets T.g_write_content_packets sc_write_content_packets bw_write_content_packets (fun vs H Q E h => l1 h) (fun cdv A outer s H vs Q E hr h => ?_)
  obtain ⟨a, rfl, c, hd, ho, hl, k⟩ := h
  refine ⟨_, PSs.nox ((pss_cons (ps_set (i := 1) sc_write_content_packets.nd rfl (by first | exact Or.inl rfl | exact Or.inr rfl) (pe_ix ix_tup (pv 0) pe_int (fun _ _ => rfl)))
    (pss_cons (ps_if (pt_cmpR op_eq (pv 1) pe_str (nomark _))
      (pss_cons (ps_asg (pv 0) (pg_tup rfl (pgs_cons (pg_name (i := 2) sc_write_content_packets.nd rfl (by first | exact Or.inl rfl | exact Or.inr rfl)) (pgs_cons (pg_name (i := 3) sc_write_content_packets.nd rfl (by first | exact Or.inl rfl | exact Or.inr rfl)) (pgs_cons (pg_name (i := 4) sc_write_content_packets.nd rfl (by first | exact Or.inl rfl | exact Or.inr rfl)) (pgs_cons (pg_name (i := 5) sc_write_content_packets.nd rfl (by first | exact Or.inl rfl | exact Or.inr rfl)) (pgs_cons (pg_name (i := 6) sc_write_content_packets.nd rfl (by first | exact Or.inl rfl | exact Or.inr rfl)) (pgs_cons (pg_name (i := 7) sc_write_content_packets.nd rfl (by first | exact Or.inl rfl | exact Or.inr rfl)) pgs_nil))))))))
    (pss_cons (ps_set (i := 8) sc_write_content_packets.nd rfl (by first | exact Or.inl rfl | exact Or.inr rfl) (pe_op op_cat (pe_op op_cat (fcall (ok_write_message T) (hr.mono (by decide)) pass0 (pa_cons (pv 3) pa_nil)) (fcall (ok_write_target T) (hr.mono (by decide)) pass0 (pa_cons (pv 4) pa_nil))) (fcall (ok_write_weight T) (hr.mono (by decide)) pass0 (pa_cons (pv 5) pa_nil))))
    (pss_one (ps_ret (pe_op op_cat (pe_op op_cat (pv 8) (fcall (ok_write_count T) (hr.mono (by decide)) pass0 (pa_cons (pv 6) pa_nil))) (fcall (ok_write_weights T) (hr.mono (by decide)) pass0 (pa_cons (pv 7) pa_nil)))))))
      pss_nil)
    (pss_cons (ps_if (pt_cmpR op_in_seq (pv 1) (pe_tup (pa_cons pe_str (pa_cons pe_str pa_nil))) (by rfl))
      (pss_one (ps_ret (pe_op op_cat (pe_op op_cat (fcall (ok_write_count T) (hr.mono (by decide)) pass0 (pa_cons (pe_ix ix_tup (pv 0) pe_int (fun _ _ => rfl)) pa_nil)) (fcall (ok_write_value T) (hr.mono (by decide)) pass0 (pa_cons (pe_ix ix_tup (pv 0) pe_int (fun _ _ => rfl)) pa_nil))) (fcall (ok_write_weights T) (hr.mono (by decide)) pass0 (pa_cons (pe_ix ix_tup (pv 0) pe_int (fun _ _ => rfl)) pa_nil)))))
      pss_nil)
    (pss_cons (ps_if (pt_cmpR op_in_seq (pv 1) (pe_tup (pa_cons pe_str (pa_cons pe_str pa_nil))) (by rfl))
      (pss_one (ps_ret (pe_op op_cat (fcall (ok_write_count T) (hr.mono (by decide)) pass0 (pa_cons (pe_ix ix_tup (pv 0) pe_int (fun _ _ => rfl)) pa_nil)) (fcall (ok_write_text T) (hr.mono (by decide)) pass0 (pa_cons (pe_ix ix_tup (pv 0) pe_int (fun _ _ => rfl)) pa_nil)))))
      pss_nil)
    (pss_cons (ps_if (pt_cmpR op_in_seq (pv 1) (pe_tup (pa_cons pe_str (pa_cons pe_str pa_nil))) (by rfl))
      (pss_one (ps_ret (pe_op op_cat (fcall (ok_write_count T) (hr.mono (by decide)) pass0 (pa_cons (pe_ix ix_tup (pv 0) pe_int (fun _ _ => rfl)) pa_nil)) (fcall (ok_write_weight T) (hr.mono (by decide)) pass0 (pa_cons (pe_ix ix_tup (pv 0) pe_int (fun _ _ => rfl)) pa_nil)))))
      pss_nil)
    (pss_cons (ps_if (pt_cmpR op_eq (pv 1) pe_str (nomark _))
      (pss_one (ps_ret (pe_op op_cat (fcall (ok_write_reference T) (hr.mono (by decide)) pass0 (pa_cons (pe_ix ix_tup (pv 0) pe_int (fun _ _ => rfl)) pa_nil)) (fcall (ok_write_weight T) (hr.mono (by decide)) pass0 (pa_cons (pe_ix ix_tup (pv 0) pe_int (fun _ _ => rfl)) pa_nil)))))
      pss_nil)
    (pss_one (ps_ret (pe_op op_cat (fcall (ok_write_value T) (hr.mono (by decide)) pass0 (pa_cons (pe_ix ix_tup (pv 0) pe_int (fun _ _ => rfl)) pa_nil)) (fcall (ok_write_weights T) (hr.mono (by decide)) pass0 (pa_cons (pe_ix ix_tup (pv 0) pe_int (fun _ _ => rfl)) pa_nil)))))))))))), ?_⟩
  cases c with
  | message m t wt q sh =>
    obtain ⟨a, x1, x2, x3, x4, x5, x6, rfl, hS, h1, h2, h3, h4, h5, h6⟩ := dT6 hd
    rw [dS] at h1
    subst h1
    walk_at "wk"
    refine ix_t hS rfl ?_
    walk_at "wk"
    refine ⟨a, _, rfl, hS, rfl, ?_⟩
    walk_at "wk"
    have hl2 := hl
    simp only [DCo.e, List.length_append] at hl2
    refine Gv.go (.cat (.cat (.call m (.var rfl h2) ho.1) (.call t (.var rfl h3) ho.2.1)) (.call wt (.var rfl h4) True.intro)) rfl (by simp only [List.length_append]; omega) (Same.refl H) fun p H1 s1 np1 e1 => ?_
    exact Gv.go (.cat (.catv rfl e1 (.call q (.var rfl ((SeqKeep.of s1).dp h5)) True.intro)) (.call sh (.var rfl ((SeqKeep.of s1).dp h6)) True.intro)) rfl hl s1 k
  | fulfill r n x sh =>
    obtain ⟨a, x1, x2, x3, x4, rfl, hS, h1, h2, h3, h4⟩ := dT4 hd
    rw [dS] at h1
    subst h1
    cases r <;> (
      walk_at "wk"
      refine ix_t hS rfl ?_
      walk_at "wk"
      refine ⟨by decide, fun p np => in_yes [_, _] upd_same (by decide +kernel) ?_⟩
      have s1 := Same.new (o := .tup [.str "fulfill", .str "resolved"]) np
      walk_at "wk"
      exact Gv.go (.cat (.cat (.call n (.ix rfl ((TupKeep.of s1).sqT hS) rfl ((SeqKeep.of s1).dp h2)) True.intro) (.call x (.ix rfl ((TupKeep.of s1).sqT hS) rfl ((SeqKeep.of s1).dp h3)) ho.2.1)) (.call sh (.ix rfl ((TupKeep.of s1).sqT hS) rfl ((SeqKeep.of s1).dp h4)) True.intro)) rfl hl s1 k)
  | brk r n ks =>
    obtain ⟨a, x1, x2, x3, rfl, hS, h1, h2, h3⟩ := dT3 hd
    rw [dS] at h1
    subst h1
    cases r <;> (
      walk_at "wk"
      refine ix_t hS rfl ?_
      walk_at "wk"
      refine ⟨by decide, fun p np => in_no [_, _] upd_same (by decide +kernel) ?_⟩
      have s1 := Same.new (o := .tup [.str "fulfill", .str "resolved"]) np
      walk_at "wk"
      refine ⟨by decide, fun p2 np2 => in_yes [_, _] upd_same (by decide +kernel) ?_⟩
      have s2 := Same.put (o := .tup [.str "break", .str "resolved_broken"]) s1 (s1.free np2)
      walk_at "wk"
      exact Gv.go (.cat (.call n (.ix rfl ((TupKeep.of s2).sqT hS) rfl ((SeqKeep.of s2).dp h2)) True.intro) (.call ks (.ix rfl ((TupKeep.of s2).sqT hS) rfl ((SeqKeep.of s2).dp h3)) ho.2.1)) rfl hl s2 k)
  | subscribe n wt =>
    obtain ⟨a, x1, x2, x3, rfl, hS, h1, h2, h3⟩ := dT3 hd
    rw [dS] at h1
    subst h1
    walk_at "wk"
    refine ix_t hS rfl ?_
    walk_at "wk"
    refine ⟨by decide, fun p np => in_no [_, _] upd_same (by decide +kernel) ?_⟩
    have s1 := Same.new (o := .tup [.str "fulfill", .str "resolved"]) np
    walk_at "wk"
    refine ⟨by decide, fun p2 np2 => in_no [_, _] upd_same (by decide +kernel) ?_⟩
    have s2 := Same.put (o := .tup [.str "break", .str "resolved_broken"]) s1 (s1.free np2)
    walk_at "wk"
    refine ⟨by decide, fun p3 np3 => in_yes [_, _] upd_same (by decide +kernel) ?_⟩
    have s3 := Same.put (o := .tup [.str "subscribe", .str "release_answer"]) s2 (s2.free np3)
    walk_at "wk"
    exact Gv.go (.cat (.call n (.ix rfl ((TupKeep.of s3).sqT hS) rfl ((SeqKeep.of s3).dp h2)) True.intro) (.call wt (.ix rfl ((TupKeep.of s3).sqT hS) rfl ((SeqKeep.of s3).dp h3)) True.intro)) rfl hl s3 k
  | relans n wt =>
    obtain ⟨a, x1, x2, x3, rfl, hS, h1, h2, h3⟩ := dT3 hd
    rw [dS] at h1
    subst h1
    walk_at "wk"
    refine ix_t hS rfl ?_
    walk_at "wk"
    refine ⟨by decide, fun p np => in_no [_, _] upd_same (by decide +kernel) ?_⟩
    have s1 := Same.new (o := .tup [.str "fulfill", .str "resolved"]) np
    walk_at "wk"
    refine ⟨by decide, fun p2 np2 => in_no [_, _] upd_same (by decide +kernel) ?_⟩
    have s2 := Same.put (o := .tup [.str "break", .str "resolved_broken"]) s1 (s1.free np2)
    walk_at "wk"
    refine ⟨by decide, fun p3 np3 => in_yes [_, _] upd_same (by decide +kernel) ?_⟩
    have s3 := Same.put (o := .tup [.str "subscribe", .str "release_answer"]) s2 (s2.free np3)
    walk_at "wk"
    exact Gv.go (.cat (.call n (.ix rfl ((TupKeep.of s3).sqT hS) rfl ((SeqKeep.of s3).dp h2)) True.intro) (.call wt (.ix rfl ((TupKeep.of s3).sqT hS) rfl ((SeqKeep.of s3).dp h3)) True.intro)) rfl hl s3 k
  | release r wt =>
    obtain ⟨a, x1, x2, x3, rfl, hS, h1, h2, h3⟩ := dT3 hd
    rw [dS] at h1
    subst h1
    walk_at "wk"
    refine ix_t hS rfl ?_
    walk_at "wk"
    refine ⟨by decide, fun p np => in_no [_, _] upd_same (by decide +kernel) ?_⟩
    have s1 := Same.new (o := .tup [.str "fulfill", .str "resolved"]) np
    walk_at "wk"
    refine ⟨by decide, fun p2 np2 => in_no [_, _] upd_same (by decide +kernel) ?_⟩
    have s2 := Same.put (o := .tup [.str "break", .str "resolved_broken"]) s1 (s1.free np2)
    walk_at "wk"
    refine ⟨by decide, fun p3 np3 => in_no [_, _] upd_same (by decide +kernel) ?_⟩
    have s3 := Same.put (o := .tup [.str "subscribe", .str "release_answer"]) s2 (s2.free np3)
    walk_at "wk"
    exact Gv.go (.cat (.call r (.ix rfl ((TupKeep.of s3).sqT hS) rfl ((SeqKeep.of s3).dp h2)) True.intro) (.call wt (.ix rfl ((TupKeep.of s3).sqT hS) rfl ((SeqKeep.of s3).dp h3)) True.intro)) rfl hl s3 k
  | transfer x sh =>
    obtain ⟨a, x1, x2, x3, rfl, hS, h1, h2, h3⟩ := dT3 hd
    rw [dS] at h1
    subst h1
    walk_at "wk"
    refine ix_t hS rfl ?_
    walk_at "wk"
    refine ⟨by decide, fun p np => in_no [_, _] upd_same (by decide +kernel) ?_⟩
    have s1 := Same.new (o := .tup [.str "fulfill", .str "resolved"]) np
    walk_at "wk"
    refine ⟨by decide, fun p2 np2 => in_no [_, _] upd_same (by decide +kernel) ?_⟩
    have s2 := Same.put (o := .tup [.str "break", .str "resolved_broken"]) s1 (s1.free np2)
    walk_at "wk"
    refine ⟨by decide, fun p3 np3 => in_no [_, _] upd_same (by decide +kernel) ?_⟩
    have s3 := Same.put (o := .tup [.str "subscribe", .str "release_answer"]) s2 (s2.free np3)
    walk_at "wk"
    exact Gv.go (.cat (.call x (.ix rfl ((TupKeep.of s3).sqT hS) rfl ((SeqKeep.of s3).dp h2)) ho.1) (.call sh (.ix rfl ((TupKeep.of s3).sqT hS) rfl ((SeqKeep.of s3).dp h3)) True.intro)) rfl hl s3 k
end
end Kt
set_option Elab.async false
set_option linter.all false
set_option maxRecDepth 100000
set_option maxHeartbeats 4000000
namespace Kt
open PySem PySem.Spec PyProof.Rows L2 Vl
local macro_rules | `(tactic| walk_at "wp") => `(tactic| simp only [L2.start, cxK, a_seq, a_next, a_asg, a_ret, a_retN, a_drop, a_ifS, a_break, a_cont, a_c, a_op, a_un, a_nil, a_cons, a_tup, a_lst, a_call, a_meth, a_make, a_cb, a_bm0, a_bm, a_fld, a_sfld, a_test, a_tB, a_and, a_or, a_not, a_if, a_sl, a_noPart, a_part,
  a_for, a_iTup, a_iList, a_iStr, a_iRng1, a_iRng2, rng1, rng2, a_lc, a_yes, a_gTup, a_gCons, a_gNil, a_gSub, wipe, List.set_cons_zero, List.set_cons_succ,
  v0, v1, v2, v3, v4, v5, v6, v7, v8, v9, v10, n0, n1, n2, n3, n4, n5, n6, n7, n8, n9, n10, i_0, i_c, i_u, e_i, e_s, e_b, e_n, ne_i, ne_s, ne_b, tst, tsi, tss, tsr, Vl.s0, Vl.s1, Vl.s2, Vl.s3, Vl.s4, Vl.s5, List.map_cons, List.map_nil, List.length_cons, List.length_nil, List.replicate, List.cons_append, List.nil_append, Nat.reduceAdd, Nat.reduceSub, decide_eq_true_eq, ofS, String.reduceEq, decide_true, decide_false, Bool.false_eq_true, Bool.not_true, Bool.not_false, if_true, if_false])
local macro_rules | `(tactic| walk_at "wk") => `(tactic| simp only [L2.start, cxK, a_seq, a_next, a_asg, a_ret, a_retN, a_drop, a_ifS, a_break, a_cont, a_c, q_eq, q_ne, q_in, q_ix, q_i0, q_iC, a_un, a_nil, a_cons, a_tup, a_meth, a_make, a_cb, a_bm0, a_bm, a_fld, a_sfld, a_test, a_tB, a_and, a_or, a_not, a_if, a_sl, a_noPart, a_part,
  a_for, a_iTup, a_iList, a_iStr, a_iRng1, a_iRng2, rng1, rng2, a_lc, a_yes, a_gTup, a_gCons, a_gNil, a_gSub, wipe, List.set_cons_zero, List.set_cons_succ,
  v0, v1, v2, v3, v4, v5, v6, v7, v8, v9, v10, n0, n1, n2, n3, n4, n5, n6, n7, n8, n9, n10, i_0, i_c, i_u, e_i, e_s, e_b, e_n, ne_i, ne_s, ne_b, tst, tsi, tss, tsr, Vl.s0, Vl.s1, Vl.s2, Vl.s3, Vl.s4, Vl.s5, List.map_cons, List.map_nil, List.length_cons, List.length_nil, List.replicate, List.cons_append, List.nil_append, Nat.reduceAdd, Nat.reduceSub, decide_eq_true_eq, ofS, String.reduceEq, decide_true, decide_false, Bool.false_eq_true, Bool.not_true, Bool.not_false, if_true, if_false])
section
variable {P : Program} {w : World} {K : PySem.W.Frag} {mg : Str → Option Value} {base : Heap}
theorem ok_write_packet (T : Txt K mg) : OkF P w K mg base CX0 "write_packet" 7 ["packet"] (spW K DPk.d DPk.ok DPk.e) := by
  refine mkF T.d_write_packet T.g_write_packet sc_write_packet bw_write_packet (fun vs H Q E h => l1 h) (fun cdv A outer s H vs Q E hr h => ?_)
  obtain ⟨a, rfl, p, hd, ho, hl, k⟩ := h
  refine ⟨_, PSs.nox ((pss_cons (ps_asg (pv 0) (pg_tup rfl (pgs_cons (pg_name (i := 1) sc_write_packet.nd rfl (by first | exact Or.inl rfl | exact Or.inr rfl)) (pgs_cons (pg_name (i := 2) sc_write_packet.nd rfl (by first | exact Or.inl rfl | exact Or.inr rfl)) (pgs_cons (pg_name (i := 3) sc_write_packet.nd rfl (by first | exact Or.inl rfl | exact Or.inr rfl)) (pgs_cons (pg_name (i := 4) sc_write_packet.nd rfl (by first | exact Or.inl rfl | exact Or.inr rfl)) pgs_nil))))))
    (pss_cons (ps_set (i := 5) sc_write_packet.nd rfl (by first | exact Or.inl rfl | exact Or.inr rfl) (pe_op op_cat (pe_op op_cat (pe_op op_cat (pe_lst (pa_cons (pgI T.c_VERSION) pa_nil)) (fcall (ok_write_count T) (hr.mono (by decide)) pass0 (pa_cons (pv 1) pa_nil))) (fcall (ok_write_count T) (hr.mono (by decide)) pass0 (pa_cons (pv 2) pa_nil))) (fcall (ok_write_count T) (hr.mono (by decide)) pass0 (pa_cons (pv 3) pa_nil))))
    (pss_one (ps_ret (pe_op op_cat (pe_op op_cat (pv 5) (pe_lst (pa_cons (pe_bm PySem.F.plainAttrs_tuple PySem.F.slot_tuple_index PySem.F.type_tuple_index mt_tup_index (pgR T.c_CONTENTS) (pa_cons (pe_ix ix_tup (pv 4) pe_int (fun _ _ => rfl)) pa_nil)) pa_nil))) (fcall (ok_write_content_packets T) (hr.mono (by decide)) pass0 (pa_cons (pv 4) pa_nil)))))))), ?_⟩
  obtain ⟨a, x1, x2, x3, x4, rfl, hS, h1, h2, h3, h4⟩ := dT4 hd
  have hk : ∃ b xs, ∃ z, ∃ j : Nat, x4 = .ref b ∧ SqT K H b (.str z :: xs) ∧ p.c.k = (j : Int) ∧ (conts)[j]? = some z ∧ ∀ m, m < j → (conts)[m]? ≠ some z := by
    revert h4
    cases p.c with
    | message m t wt q sh =>
      intro h4
      obtain ⟨a, x1, x2, x3, x4, x5, x6, rfl, hS, h1, h2, h3, h4, h5, h6⟩ := dT6 h4
      rw [dS] at h1
      subst h1
      exact ⟨_, _, _, 0, rfl, hS, rfl, rfl, by decide +kernel⟩
    | fulfill r n x sh =>
      intro h4
      obtain ⟨a, x1, x2, x3, x4, rfl, hS, h1, h2, h3, h4⟩ := dT4 h4
      rw [dS] at h1
      subst h1
      cases r
      · exact ⟨_, _, _, 1, rfl, hS, rfl, rfl, by decide +kernel⟩
      · exact ⟨_, _, _, 4, rfl, hS, rfl, rfl, by decide +kernel⟩
    | brk r n ks =>
      intro h4
      obtain ⟨a, x1, x2, x3, rfl, hS, h1, h2, h3⟩ := dT3 h4
      rw [dS] at h1
      subst h1
      cases r
      · exact ⟨_, _, _, 2, rfl, hS, rfl, rfl, by decide +kernel⟩
      · exact ⟨_, _, _, 5, rfl, hS, rfl, rfl, by decide +kernel⟩
    | subscribe n wt =>
      intro h4
      obtain ⟨a, x1, x2, x3, rfl, hS, h1, h2, h3⟩ := dT3 h4
      rw [dS] at h1
      subst h1
      exact ⟨_, _, _, 3, rfl, hS, rfl, rfl, by decide +kernel⟩
    | release r wt =>
      intro h4
      obtain ⟨a, x1, x2, x3, rfl, hS, h1, h2, h3⟩ := dT3 h4
      rw [dS] at h1
      subst h1
      exact ⟨_, _, _, 6, rfl, hS, rfl, rfl, by decide +kernel⟩
    | relans n wt =>
      intro h4
      obtain ⟨a, x1, x2, x3, rfl, hS, h1, h2, h3⟩ := dT3 h4
      rw [dS] at h1
      subst h1
      exact ⟨_, _, _, 7, rfl, hS, rfl, rfl, by decide +kernel⟩
    | transfer x sh =>
      intro h4
      obtain ⟨a, x1, x2, x3, rfl, hS, h1, h2, h3⟩ := dT3 h4
      rw [dS] at h1
      subst h1
      exact ⟨_, _, _, 8, rfl, hS, rfl, rfl, by decide +kernel⟩
  obtain ⟨b, xs, z, j, rfl, hSc, hc, hj, hn⟩ := hk
  have hT := sqT_strs (ys := conts) (T.t_CONTENTS H)
  have hl2 := hl
  simp only [DPk.e, List.length_append, List.length_cons] at hl2
  walk_at "wk"
  refine ⟨a, _, rfl, hS, rfl, ?_⟩
  walk_at "wk"
  refine Gv.go (.cat (.cat (.cat (.one .c) (.call p.s (.var rfl h1) True.intro)) (.call p.r (.var rfl h2) True.intro)) (.call p.n (.var rfl h3) True.intro)) rfl (by simp only [List.length_append, List.length_cons, List.length_nil]; omega) (Same.refl H) fun q H1 s1 np1 e1 => ?_
  refine Gv.go (.cat (.catv rfl e1 (.one (i := (j : Int)) fun H2 s2 Q2 k2 => ?_)) (.call p.c (.var rfl ((SeqKeep.of s1).dp h4)) ho.2.2.2)) (l' := p.e) ?_ hl s1 k
  · walk_at "wp"
    exact ⟨T.y_CONTENTS _, ix_t ((TupKeep.of (s1.trans s2)).sqT hSc) (atI_nat (j := 0) rfl) (tidx _ j ((TupKeep.of (s1.trans s2)).sqT hT) hj hn (k2 _ (Same.refl _)))⟩
  · rw [DPk.e, hc]
    simp only [List.append_assoc, List.cons_append, List.nil_append]
theorem ok_write_content_journal (T : Txt K mg) : OkF P w K mg base CX0 "write_content_journal" 8 ["entry"] (spW K DEn.d DEn.ok DEn.c) := by
  refine mkF T.d_write_content_journal T.g_write_content_journal sc_write_content_journal bw_write_content_journal (fun vs H Q E h => l1 h) (fun cdv A outer s H vs Q E hr h => ?_)
  obtain ⟨a, rfl, c, hd, ho, hl, k⟩ := h
  refine ⟨_, PSs.nox ((pss_cons (ps_set (i := 1) sc_write_content_journal.nd rfl (by first | exact Or.inl rfl | exact Or.inr rfl) (pe_ix ix_tup (pv 0) pe_int (fun _ _ => rfl)))
    (pss_cons (ps_if (pt_cmpR op_eq (pv 1) pe_str (nomark _))
      (pss_one (ps_ret (pe_op op_cat (fcall (ok_write_count T) (hr.mono (by decide)) pass0 (pa_cons (pe_ix ix_tup (pv 0) pe_int (fun _ _ => rfl)) pa_nil)) (fcall (ok_write_program T) (hr.mono (by decide)) pass0 (pa_cons (pe_ix ix_tup (pv 0) pe_int (fun _ _ => rfl)) pa_nil)))))
      pss_nil)
    (pss_cons (ps_if (pt_cmpR op_eq (pv 1) pe_str (nomark _))
      (pss_one (ps_ret (pe_op op_cat (fcall (ok_write_text T) (hr.mono (by decide)) pass0 (pa_cons (pe_ix ix_tup (pv 0) pe_int (fun _ _ => rfl)) pa_nil)) (fcall (ok_write_values T) (hr.mono (by decide)) pass0 (pa_cons (pe_ix ix_tup (pv 0) pe_int (fun _ _ => rfl)) pa_nil)))))
      pss_nil)
    (pss_cons (ps_if (pt_cmpR op_eq (pv 1) pe_str (nomark _))
      (pss_one (ps_ret (pe_op op_cat (pe_op op_cat (fcall (ok_write_reference T) (hr.mono (by decide)) pass0 (pa_cons (pe_ix ix_tup (pv 0) pe_int (fun _ _ => rfl)) pa_nil)) (fcall (ok_write_text T) (hr.mono (by decide)) pass0 (pa_cons (pe_ix ix_tup (pv 0) pe_int (fun _ _ => rfl)) pa_nil))) (fcall (ok_write_values T) (hr.mono (by decide)) pass0 (pa_cons (pe_ix ix_tup (pv 0) pe_int (fun _ _ => rfl)) pa_nil)))))
      pss_nil)
    (pss_cons (ps_if (pt_cmpR op_eq (pv 1) pe_str (nomark _))
      (pss_one (ps_ret (pe_op op_cat (fcall (ok_write_count T) (hr.mono (by decide)) pass0 (pa_cons (pe_ix ix_tup (pv 0) pe_int (fun _ _ => rfl)) pa_nil)) (fcall (ok_write_value T) (hr.mono (by decide)) pass0 (pa_cons (pe_ix ix_tup (pv 0) pe_int (fun _ _ => rfl)) pa_nil)))))
      pss_nil)
    (pss_cons (ps_if (pt_cmpR op_in_seq (pv 1) (pe_tup (pa_cons pe_str (pa_cons pe_str pa_nil))) (by rfl))
      (pss_one (ps_ret (fcall (ok_write_reference T) (hr.mono (by decide)) pass0 (pa_cons (pe_ix ix_tup (pv 0) pe_int (fun _ _ => rfl)) pa_nil))))
      pss_nil)
    (pss_cons (ps_if (pt_cmpR op_eq (pv 1) pe_str (nomark _))
      (pss_one (ps_ret (fcall (ok_write_packet T) (hr.mono (by decide)) pass0 (pa_cons (pe_ix ix_tup (pv 0) pe_int (fun _ _ => rfl)) pa_nil))))
      pss_nil)
    (pss_one (ps_ret (pe_ifExp (pt_cmpR op_eq (pv 1) pe_str (nomark _)) (fcall (ok_write_references T) (hr.mono (by decide)) pass0 (pa_cons (pe_ix ix_tup (pv 0) pe_int (fun _ _ => rfl)) pa_nil)) (pe_lst pa_nil)))))))))))), ?_⟩
  cases c with
  | start v ks =>
    obtain ⟨a, x1, x2, x3, rfl, hS, h1, h2, h3⟩ := dT3 hd
    rw [dS] at h1
    subst h1
    walk_at "wk"
    refine ix_t hS rfl ?_
    walk_at "wk"
    exact Gv.go (.cat (.call v (.ix rfl hS rfl h2) True.intro) (.call ks (.ix rfl hS rfl h3) ho.2.1)) rfl hl (Same.refl H) k
  | create nm vs =>
    obtain ⟨a, x1, x2, x3, rfl, hS, h1, h2, h3⟩ := dT3 hd
    rw [dS] at h1
    subst h1
    walk_at "wk"
    refine ix_t hS rfl ?_
    walk_at "wk"
    exact Gv.go (.cat (.call nm (.ix rfl hS rfl h2) (fun k hk => Nat.lt_trans (ho.1.1 k hk).2 (by decide))) (.call vs (.ix rfl hS rfl h3) ho.2.2)) rfl hl (Same.refl H) k
  | send r nm vs =>
    obtain ⟨a, x1, x2, x3, x4, rfl, hS, h1, h2, h3, h4⟩ := dT4 hd
    rw [dS] at h1
    subst h1
    walk_at "wk"
    refine ix_t hS rfl ?_
    walk_at "wk"
    exact Gv.go (.cat (.cat (.call r (.ix rfl hS rfl h2) True.intro) (.call nm (.ix rfl hS rfl h3) (fun k hk => Nat.lt_trans (ho.2.1.1 k hk).2 (by decide)))) (.call vs (.ix rfl hS rfl h4) ho.2.2.2)) rfl hl (Same.refl H) k
  | transfer v x =>
    obtain ⟨a, x1, x2, x3, rfl, hS, h1, h2, h3⟩ := dT3 hd
    rw [dS] at h1
    subst h1
    walk_at "wk"
    refine ix_t hS rfl ?_
    walk_at "wk"
    exact Gv.go (.cat (.call v (.ix rfl hS rfl h2) True.intro) (.call x (.ix rfl hS rfl h3) ho.2)) rfl hl (Same.refl H) k
  | take =>
    obtain ⟨a, x1, rfl, hS, h1⟩ := dT1 hd
    rw [dS] at h1
    subst h1
    walk_at "wk"
    refine ix_t hS rfl ?_
    walk_at "wk"
    refine ⟨by decide, fun p np => in_no [_, _] upd_same (by decide +kernel) ?_⟩
    have s1 := Same.new (o := .tup [.str "pin", .str "release"]) np
    walk_at "wk"
    exact Gv.go .none rfl hl s1 k
  | turn =>
    obtain ⟨a, x1, rfl, hS, h1⟩ := dT1 hd
    rw [dS] at h1
    subst h1
    walk_at "wk"
    refine ix_t hS rfl ?_
    walk_at "wk"
    refine ⟨by decide, fun p np => in_no [_, _] upd_same (by decide +kernel) ?_⟩
    have s1 := Same.new (o := .tup [.str "pin", .str "release"]) np
    walk_at "wk"
    exact Gv.go .none rfl hl s1 k
  | collect =>
    obtain ⟨a, x1, rfl, hS, h1⟩ := dT1 hd
    rw [dS] at h1
    subst h1
    walk_at "wk"
    refine ix_t hS rfl ?_
    walk_at "wk"
    refine ⟨by decide, fun p np => in_no [_, _] upd_same (by decide +kernel) ?_⟩
    have s1 := Same.new (o := .tup [.str "pin", .str "release"]) np
    walk_at "wk"
    exact Gv.go .none rfl hl s1 k
  | pin r =>
    obtain ⟨a, x1, x2, rfl, hS, h1, h2⟩ := dT2 hd
    rw [dS] at h1
    subst h1
    walk_at "wk"
    refine ix_t hS rfl ?_
    walk_at "wk"
    refine ⟨by decide, fun p np => in_yes [_, _] upd_same (by decide +kernel) ?_⟩
    have s1 := Same.new (o := .tup [.str "pin", .str "release"]) np
    walk_at "wk"
    exact Gv.go (.call r (.ix rfl ((TupKeep.of s1).sqT hS) rfl ((SeqKeep.of s1).dp h2)) True.intro) rfl hl s1 k
  | release r =>
    obtain ⟨a, x1, x2, rfl, hS, h1, h2⟩ := dT2 hd
    rw [dS] at h1
    subst h1
    walk_at "wk"
    refine ix_t hS rfl ?_
    walk_at "wk"
    refine ⟨by decide, fun p np => in_yes [_, _] upd_same (by decide +kernel) ?_⟩
    have s1 := Same.new (o := .tup [.str "pin", .str "release"]) np
    walk_at "wk"
    exact Gv.go (.call r (.ix rfl ((TupKeep.of s1).sqT hS) rfl ((SeqKeep.of s1).dp h2)) True.intro) rfl hl s1 k
  | receive p =>
    obtain ⟨a, x1, x2, rfl, hS, h1, h2⟩ := dT2 hd
    rw [dS] at h1
    subst h1
    walk_at "wk"
    refine ix_t hS rfl ?_
    walk_at "wk"
    refine ⟨by decide, fun p np => in_no [_, _] upd_same (by decide +kernel) ?_⟩
    have s1 := Same.new (o := .tup [.str "pin", .str "release"]) np
    walk_at "wk"
    exact Gv.go (.call _ (.ix rfl ((TupKeep.of s1).sqT hS) rfl ((SeqKeep.of s1).dp h2)) ho) rfl hl s1 k
  | drop rs =>
    obtain ⟨a, x1, x2, rfl, hS, h1, h2⟩ := dT2 hd
    rw [dS] at h1
    subst h1
    walk_at "wk"
    refine ix_t hS rfl ?_
    walk_at "wk"
    refine ⟨by decide, fun p np => in_no [_, _] upd_same (by decide +kernel) ?_⟩
    have s1 := Same.new (o := .tup [.str "pin", .str "release"]) np
    walk_at "wk"
    exact Gv.go (.call rs (.ix rfl ((TupKeep.of s1).sqT hS) rfl ((SeqKeep.of s1).dp h2)) True.intro) rfl hl s1 k
theorem ok_write_entry (T : Txt K mg) : OkF P w K mg base CX0 "write_entry" 9 ["entry"] (spW K DEn.d DEn.ok DEn.e) := by
  refine mkF T.d_write_entry T.g_write_entry sc_write_entry bw_write_entry (fun vs H Q E h => l1 h) (fun cdv A outer s H vs Q E hr h => ?_)
  obtain ⟨a, rfl, c, hd, ho, hl, k⟩ := h
  refine ⟨_, PSs.nox ((pss_cons (ps_set (i := 1) sc_write_entry.nd rfl (by first | exact Or.inl rfl | exact Or.inr rfl) (pe_op op_cat (pe_lst (pa_cons (pe_bm PySem.F.plainAttrs_tuple PySem.F.slot_tuple_index PySem.F.type_tuple_index mt_tup_index (pgR T.c_KINDS_journal) (pa_cons (pe_ix ix_tup (pv 0) pe_int (fun _ _ => rfl)) pa_nil)) pa_nil)) (fcall (ok_write_content_journal T) (hr.mono (by decide)) pass0 (pa_cons (pv 0) pa_nil))))
    (pss_one (ps_ret (pe_op op_cat (fcall (ok_write_count T) (hr.mono (by decide)) pass0 (pa_cons (pe_callB call_len_seq (by rfl) T.n_len PySem.boot_len (pa_cons (pv 1) pa_nil)) pa_nil)) (pv 1)))))), ?_⟩
  have hk : ∃ b xs, ∃ z, ∃ j : Nat, a = .ref b ∧ SqT K H b (.str z :: xs) ∧ c.k = (j : Int) ∧ (kinds)[j]? = some z ∧ ∀ m, m < j → (kinds)[m]? ≠ some z := by
    cases c with
    | start v ks =>
      obtain ⟨a, x1, x2, x3, rfl, hS, h1, h2, h3⟩ := dT3 hd
      rw [dS] at h1
      subst h1
      exact ⟨_, _, _, 0, rfl, hS, rfl, rfl, by decide +kernel⟩
    | create nm vs =>
      obtain ⟨a, x1, x2, x3, rfl, hS, h1, h2, h3⟩ := dT3 hd
      rw [dS] at h1
      subst h1
      exact ⟨_, _, _, 1, rfl, hS, rfl, rfl, by decide +kernel⟩
    | send r nm vs =>
      obtain ⟨a, x1, x2, x3, x4, rfl, hS, h1, h2, h3, h4⟩ := dT4 hd
      rw [dS] at h1
      subst h1
      exact ⟨_, _, _, 2, rfl, hS, rfl, rfl, by decide +kernel⟩
    | transfer v x =>
      obtain ⟨a, x1, x2, x3, rfl, hS, h1, h2, h3⟩ := dT3 hd
      rw [dS] at h1
      subst h1
      exact ⟨_, _, _, 3, rfl, hS, rfl, rfl, by decide +kernel⟩
    | take =>
      obtain ⟨a, x1, rfl, hS, h1⟩ := dT1 hd
      rw [dS] at h1
      subst h1
      exact ⟨_, _, _, 4, rfl, hS, rfl, rfl, by decide +kernel⟩
    | turn =>
      obtain ⟨a, x1, rfl, hS, h1⟩ := dT1 hd
      rw [dS] at h1
      subst h1
      exact ⟨_, _, _, 5, rfl, hS, rfl, rfl, by decide +kernel⟩
    | collect =>
      obtain ⟨a, x1, rfl, hS, h1⟩ := dT1 hd
      rw [dS] at h1
      subst h1
      exact ⟨_, _, _, 6, rfl, hS, rfl, rfl, by decide +kernel⟩
    | pin r =>
      obtain ⟨a, x1, x2, rfl, hS, h1, h2⟩ := dT2 hd
      rw [dS] at h1
      subst h1
      exact ⟨_, _, _, 7, rfl, hS, rfl, rfl, by decide +kernel⟩
    | release r =>
      obtain ⟨a, x1, x2, rfl, hS, h1, h2⟩ := dT2 hd
      rw [dS] at h1
      subst h1
      exact ⟨_, _, _, 8, rfl, hS, rfl, rfl, by decide +kernel⟩
    | receive p =>
      obtain ⟨a, x1, x2, rfl, hS, h1, h2⟩ := dT2 hd
      rw [dS] at h1
      subst h1
      exact ⟨_, _, _, 9, rfl, hS, rfl, rfl, by decide +kernel⟩
    | drop rs =>
      obtain ⟨a, x1, x2, rfl, hS, h1, h2⟩ := dT2 hd
      rw [dS] at h1
      subst h1
      exact ⟨_, _, _, 10, rfl, hS, rfl, rfl, by decide +kernel⟩
  obtain ⟨b, xs, z, j, rfl, hS, hc, hj, hn⟩ := hk
  have hT := sqT_strs (ys := kinds) (T.t_KINDS_journal H)
  have hl2 := hl
  simp only [DEn.e, List.length_append] at hl2
  walk_at "wk"
  refine Gv.go (.cat (.one (i := (j : Int)) fun H2 s2 Q2 k2 => ?_) (.call c (.var rfl hd) ho)) rfl (by rw [List.length_append, List.length_singleton]; rw [List.length_cons] at hl2; omega) (Same.refl H) fun p H1 s1 np1 e1 => ?_
  · walk_at "wp"
    exact ⟨T.y_KINDS_journal _, ix_t ((TupKeep.of s2).sqT hS) (atI_nat (j := 0) rfl) (tidx _ j ((TupKeep.of s2).sqT hT) hj hn (k2 _ (Same.refl _)))⟩
  · refine Gv.go (.vcat (.call (c.k :: c.c).length (.i fun H2 s2 Q2 k2 => ?_) True.intro) rfl e1) (l' := c.e) ?_ hl s1 k
    · walk_at "wp"
      refine ⟨p, _, rfl, .inl (.of (s2 _ _ e1)), ?_⟩
      rw [vlen]
      rw [hc] at k2
      exact k2 _ (Same.refl _)
    · rw [DEn.e, hc]
      rfl
end
end Kt
set_option Elab.async false
set_option linter.all false
set_option maxRecDepth 100000
set_option maxHeartbeats 4000000
namespace Kt
open PySem PySem.Spec PyProof.Rows L2 Vl
local macro_rules | `(tactic| walk_at "wp") => `(tactic| simp only [L2.start, cxK, a_seq, a_next, a_asg, a_ret, a_retN, a_drop, a_ifS, a_break, a_cont, a_c, a_op, a_un, a_nil, a_cons, a_tup, a_lst, a_call, a_meth, a_make, a_cb, a_bm0, a_bm, a_fld, a_sfld, a_test, a_tB, a_and, a_or, a_not, a_if, a_sl, a_noPart, a_part,
  a_for, a_iTup, a_iList, a_iStr, a_iRng1, a_iRng2, rng1, rng2, a_lc, a_yes, a_gTup, a_gCons, a_gNil, a_gSub, wipe, List.set_cons_zero, List.set_cons_succ,
  v0, v1, v2, v3, v4, v5, v6, v7, v8, v9, v10, n0, n1, n2, n3, n4, n5, n6, n7, n8, n9, n10, i_0, i_c, i_u, e_i, e_s, e_b, e_n, ne_i, ne_s, ne_b, tst, tsi, tss, tsr, Vl.s0, Vl.s1, Vl.s2, Vl.s3, Vl.s4, Vl.s5, List.map_cons, List.map_nil, List.length_cons, List.length_nil, List.replicate, List.cons_append, List.nil_append, Nat.reduceAdd, Nat.reduceSub, decide_eq_true_eq, ofS, String.reduceEq, decide_true, decide_false, Bool.false_eq_true, Bool.not_true, Bool.not_false, if_true, if_false])
local macro_rules | `(tactic| walk_at "wk") => `(tactic| simp only [L2.start, cxK, a_seq, a_next, a_asg, a_ret, a_retN, a_drop, a_ifS, a_break, a_cont, a_c, q_eq, q_ne, q_in, q_ix, q_i0, q_iC, a_un, a_nil, a_cons, a_tup, a_meth, a_make, a_cb, a_bm0, a_bm, a_fld, a_sfld, a_test, a_tB, a_and, a_or, a_not, a_if, a_sl, a_noPart, a_part,
  a_for, a_iTup, a_iList, a_iStr, a_iRng1, a_iRng2, rng1, rng2, a_lc, a_yes, a_gTup, a_gCons, a_gNil, a_gSub, wipe, List.set_cons_zero, List.set_cons_succ,
  v0, v1, v2, v3, v4, v5, v6, v7, v8, v9, v10, n0, n1, n2, n3, n4, n5, n6, n7, n8, n9, n10, i_0, i_c, i_u, e_i, e_s, e_b, e_n, ne_i, ne_s, ne_b, tst, tsi, tss, tsr, Vl.s0, Vl.s1, Vl.s2, Vl.s3, Vl.s4, Vl.s5, List.map_cons, List.map_nil, List.length_cons, List.length_nil, List.replicate, List.cons_append, List.nil_append, Nat.reduceAdd, Nat.reduceSub, decide_eq_true_eq, ofS, String.reduceEq, decide_true, decide_false, Bool.false_eq_true, Bool.not_true, Bool.not_false, if_true, if_false])
section
variable {P : Program} {w : World} {K : PySem.W.Frag} {mg : Str → Option Value} {base : Heap}
theorem ok__law_signs (T : Txt K mg) : OkF P w K mg base CX0 "_law_signs" 1 [] (Sp0 fun H Q _ => Q (.str charsS) H) := by
  refine mkF T.d__law_signs T.g__law_signs sc__law_signs bw__law_signs (fun vs H Q E h => l0 h) (fun cdv A outer s H vs Q E hr h => ?_)
  obtain ⟨rfl, k⟩ := h
  refine ⟨_, PSs.nox ((pss_one (ps_ret pe_str))), ?_⟩
  walk_at "wp"
  exact k
theorem ok__law_count (T : Txt K mg) : OkF P w K mg base CX0 "_law_count" 1 ["number"] (spW K pN Cok cntd) := by
  refine mkF T.d__law_count T.g__law_count sc__law_count bw__law_count (fun vs H Q E h => l1 h) (fun cdv A outer s H vs Q E hr h => ?_)
  obtain ⟨a, rfl, n, hd, ho, hl, k⟩ := h
  refine ⟨_, PSs.nox ((pss_cons (ps_set (i := 1) sc__law_count.nd rfl (by first | exact Or.inl rfl | exact Or.inr rfl) (pe_lst pa_nil))
    (pss_cons (ps_for PassesOwn.never rfl (pi_range1 (by rfl) T.n_range (pa_cons pe_int pa_nil)) (pg_name (i := 2) sc__law_count.nd rfl (by first | exact Or.inl rfl | exact Or.inr rfl))
      (pss_cons (ps_if (pt_cmpR op_lt (pv 0) pe_int (nomark _))
      (pss_one ps_break)
      pss_nil)
    (pss_cons (ps_expr (pe_bm PySem.F.plainAttrs_list PySem.F.slot_list_append PySem.F.type_list_append mt_append (pv 1) (pa_cons (pe_op op_add pe_int (pe_op op_mod (pe_callTy call_int1 (by rfl) T.n_int (by decide +kernel) (pa_cons (pv 0) pa_nil)) pe_int)) pa_nil)))
    (pss_one (ps_set (i := 0) sc__law_count.nd rfl (by first | exact Or.inl rfl | exact Or.inr rfl) (pe_op op_fdiv (pv 0) pe_int))))))
    (pss_one (ps_ret (pe_op op_cat (pv 1) (pe_lst (pa_cons (pv 0) pa_nil)))))))), ?_⟩
  rw [pN, dI] at hd
  subst hd
  walk_at "wp"
  refine ⟨by decide, fun p np => ⟨_, rfl, by decide, by decide, ?_⟩⟩
  refine forN (fun i σ H2 => ∃ m pre y, σ = [some (.int (m : Nat)), some (.ref p), y] ∧ H2 p = some (.lst (vints pre)) ∧ pre ++ cntd m = cntd n ∧ pre.length = i ∧ Same H H2) ⟨n, [], none, rfl, upd_same, rfl, rfl, Same.new np⟩ ?_ ?_
  · rintro i σ H2 hi ⟨m, pre, y, rfl, e, hc, hp, s2⟩
    have hz : (pre ++ cntd m).length = (cntd n).length := by rw [hc]
    rw [List.length_append] at hz
    have hq := cnt_pos m
    have hoo : (cntd n).length ≤ 2000 := ho
    walk_at "wp"
    split
    · rename_i c
      rw [cnt_small (by omega)] at hc hz
      refine ⟨by decide, fun p2 np2 => catw (b := [(m : Int)]) (by rw [upd_ne (fun h => by rw [h, np2] at e; cases e)]; exact e) upd_same (by rw [List.length_append, List.length_singleton]; rw [List.length_singleton] at hz; omega) fun p3 np3 => ?_⟩
      rw [hc]
      exact k _ _ (Same.put (Same.put s2 (s2.free np2)) ((Same.put s2 (s2.free np2)).free np3)) ((Same.put s2 (s2.free np2)).free np3) upd_same
    · rename_i c
      refine ⟨ty_lst (.of e), .inl ⟨_, rfl, by decide, appw e (by omega) ?_⟩⟩
      refine ⟨⟨by decide, by decide⟩, m / 128, pre ++ [(128 + (m % 128 : Nat) : Int)], _, rfl, upd_same, ?_, ?_, Same.put s2 np⟩
      · rw [← hc, cnt_big (n := m) (by omega), List.append_assoc]
        rfl
      · rw [List.length_append, hp]
        rfl
  · rintro σ H2 ⟨m, pre, y, rfl, e, hc, hp, s2⟩
    have hz : (pre ++ cntd m).length = (cntd n).length := by rw [hc]
    rw [List.length_append, hp] at hz
    have hoo : (cntd n).length ≤ 2000 := ho
    exact absurd hz (by show ¬ ((2100 : Int).toNat + _ = _); omega)
theorem ok__law_written_text (T : Txt K mg) : OkF P w K mg base CX0 "_law_written_text" 2 ["text"] (spW K pS Tx eS) := by
  refine mkF T.d__law_written_text T.g__law_written_text sc__law_written_text bw__law_written_text (fun vs H Q E h => l1 h) (fun cdv A outer s H vs Q E hr h => ?_)
  obtain ⟨a, rfl, ks, hd, ho, hl, k⟩ := h
  refine ⟨_, PSs.nox ((pss_cons (ps_set (i := 1) sc__law_written_text.nd rfl (by first | exact Or.inl rfl | exact Or.inr rfl) (fcall0 (ok__law_signs T) (hr.mono (by decide)) pass0))
    (pss_one (ps_ret (pe_op op_cat (fcall (ok__law_count T) (hr.mono (by decide)) pass0 (pa_cons (pe_callB call_len_str (by rfl) T.n_len PySem.boot_len (pa_cons (pv 0) pa_nil)) pa_nil)) (pe_lc (own := [("sign", 2)]) (g := gName 2) (tt := tYes) rfl sc__law_written_text.nd (pi_str (pv 0)) (blkOk_by (N := ["text", "signs", "sign"]) (sc := defScope s__law_written_text) (by decide +kernel)) (fun _ _ _ _ _ => pg_name (i := 2) sc__law_written_text.nd rfl (Or.inl rfl)) (fun _ _ _ _ _ => pts_nil) (fun _ _ _ _ _ => (toBmK (k := K) rfl (pe_bm PySem.F.plainAttrs_str PySem.F.slot_str_index PySem.F.type_str_index mt_sindex (pv 1) (pa_cons (pv 2) pa_nil)))))))))), ?_⟩
  rw [pS, dS] at hd
  subst hd
  have hl2 := hl
  rw [eS, List.length_append, List.length_map] at hl2
  walk_at "wk"
  rw [a_call, a_nil, Vl.s0]
  walk_at "wk"
  refine Gv.go (.cat (.call ks.length (.i fun H2 s2 Q2 k2 => ?_) (cok (by omega))) (.sign (ks := ks) (m := 94) rfl rfl (by decide) (show 2 < 3 by decide) ho sg_idxC)) rfl hl (Same.refl H) k
  walk_at "wp"
  refine ⟨_, rfl, by rw [ofIx_len]; exact le1000000 (by omega), ?_⟩
  rw [ofIx_len]
  exact k2 _ (Same.refl _)
theorem ok__law_written_program (T : Txt K mg) : OkF P w K mg base CX0 "_law_written_program" 2 ["text"] (spW K pS Tn eS) := by
  refine mkF T.d__law_written_program T.g__law_written_program sc__law_written_program bw__law_written_program (fun vs H Q E h => l1 h) (fun cdv A outer s H vs Q E hr h => ?_)
  obtain ⟨a, rfl, ks, hd, ho, hl, k⟩ := h
  refine ⟨_, PSs.nox ((pss_cons (ps_set (i := 1) sc__law_written_program.nd rfl (by first | exact Or.inl rfl | exact Or.inr rfl) (pe_op op_add_str (fcall0 (ok__law_signs T) (hr.mono (by decide)) pass0) pe_str))
    (pss_one (ps_ret (pe_op op_cat (fcall (ok__law_count T) (hr.mono (by decide)) pass0 (pa_cons (pe_callB call_len_str (by rfl) T.n_len PySem.boot_len (pa_cons (pv 0) pa_nil)) pa_nil)) (pe_lc (own := [("sign", 2)]) (g := gName 2) (tt := tYes) rfl sc__law_written_program.nd (pi_str (pv 0)) (blkOk_by (N := ["text", "signs", "sign"]) (sc := defScope s__law_written_program) (by decide +kernel)) (fun _ _ _ _ _ => pg_name (i := 2) sc__law_written_program.nd rfl (Or.inl rfl)) (fun _ _ _ _ _ => pts_nil) (fun _ _ _ _ _ => (toBmK (k := K) rfl (pe_bm PySem.F.plainAttrs_str PySem.F.slot_str_index PySem.F.type_str_index mt_sindex (pv 1) (pa_cons (pv 2) pa_nil)))))))))), ?_⟩
  rw [pS, dS] at hd
  subst hd
  have hl2 := hl
  rw [eS, List.length_append, List.length_map] at hl2
  walk_at "wk"
  rw [a_op, a_call, a_nil, Vl.s0]
  refine ⟨_, _, rfl, rfl, by decide +kernel, ?_⟩
  walk_at "wk"
  refine Gv.go (.cat (.call ks.length (.i fun H2 s2 Q2 k2 => ?_) (cok (by omega))) (.sign (ks := ks) (m := 95) rfl rfl (by decide) (show 2 < 3 by decide) ho (by rw [charsNl]; exact sg_idx95))) rfl hl (Same.refl H) k
  walk_at "wp"
  refine ⟨_, rfl, by rw [ofIx_len]; exact le1000000 (by omega), ?_⟩
  rw [ofIx_len]
  exact k2 _ (Same.refl _)
theorem ok__law_written_reference (T : Txt K mg) : OkF P w K mg base CX0 "_law_written_reference" 2 ["value"] (spW K DRef.d DRef.ok DRef.e) := by
  refine mkF T.d__law_written_reference T.g__law_written_reference sc__law_written_reference bw__law_written_reference (fun vs H Q E h => l1 h) (fun cdv A outer s H vs Q E hr h => ?_)
  obtain ⟨a, rfl, r, hd, ho, hl, k⟩ := h
  refine ⟨_, PSs.nox ((pss_one (ps_ret (pe_op op_cat (pe_op op_cat (pe_lst (pa_cons (pe_callTy call_int1 (by rfl) T.n_int (by decide +kernel) (pa_cons (pe_cmpR op_eq (pe_ix ix_tup (pv 0) pe_int (fun _ _ => rfl)) pe_str (nomark _)) pa_nil)) pa_nil)) (fcall (ok__law_count T) (hr.mono (by decide)) pass0 (pa_cons (pe_ix ix_tup (pv 0) pe_int (fun _ _ => rfl)) pa_nil))) (fcall (ok__law_count T) (hr.mono (by decide)) pass0 (pa_cons (pe_ix ix_tup (pv 0) pe_int (fun _ _ => rfl)) pa_nil)))))), ?_⟩
  obtain ⟨a, u, y, z, rfl, hS, h0, h1, h2⟩ := dT3 hd
  rw [dS] at h0
  subst h0
  have ho2 := ho
  obtain ⟨o1, o2, o3, o4⟩ := ho2
  walk_at "wk"
  refine Gv.go (.cat (.cat (.one (i := if r.p then 1 else 0) fun H2 s2 Q2 k2 => ?_) (.call r.v (.ix rfl hS rfl h1) (cok (by omega)))) (.call r.n (.ix rfl hS rfl h2) (cok (by omega)))) rfl hl (Same.refl H) k
  walk_at "wp"
  refine ix_t ((TupKeep.of s2).sqT hS) rfl ?_
  rw [e_s]
  refine .inr ⟨_, rfl, ?_⟩
  have : (if decide ((if r.p = true then Str.ofString "promise" else Str.ofString "object") = Str.ofString "promise") = true then (1 : Int) else 0) = if r.p then 1 else 0 := by
    cases r.p <;> decide +kernel
  rw [this]
  exact k2 _ (Same.refl _)
theorem ok__law_written_atom (T : Txt K mg) : OkF P w K mg base CX0 "_law_written_atom" 3 ["atom"] (spW K DAt.d DAt.ok DAt.e) := by
  refine mkF T.d__law_written_atom T.g__law_written_atom sc__law_written_atom bw__law_written_atom (fun vs H Q E h => l1 h) (fun cdv A outer s H vs Q E hr h => ?_)
  obtain ⟨a, rfl, t, hd, ho, hl, k⟩ := h
  refine ⟨_, PSs.nox ((pss_cons (ps_if (pt_cmpR op_eq (pe_ix ix_tup (pv 0) pe_int (fun _ _ => rfl)) pe_str (nomark _))
      (pss_one (ps_ret (pe_lst (pa_cons pe_int pa_nil))))
      pss_nil)
    (pss_cons (ps_if (pt_cmpR op_eq (pe_ix ix_tup (pv 0) pe_int (fun _ _ => rfl)) pe_str (nomark _))
      (pss_one (ps_ret (pe_lst (pa_cons (pe_op op_add pe_int (pe_callTy call_int1 (by rfl) T.n_int (by decide +kernel) (pa_cons (pe_ix ix_tup (pv 0) pe_int (fun _ _ => rfl)) pa_nil))) pa_nil))))
      pss_nil)
    (pss_cons (ps_if (pt_cmpR op_eq (pe_ix ix_tup (pv 0) pe_int (fun _ _ => rfl)) pe_str (nomark _))
      (pss_cons (ps_set (i := 1) sc__law_written_atom.nd rfl (by first | exact Or.inl rfl | exact Or.inr rfl) (pe_op op_mul pe_int (pe_ix ix_tup (pv 0) pe_int (fun _ _ => rfl))))
    (pss_cons (ps_if (pt_cmpR op_lt (pv 1) pe_int (nomark _))
      (pss_one (ps_set (i := 1) sc__law_written_atom.nd rfl (by first | exact Or.inl rfl | exact Or.inr rfl) (pe_op op_sub (pe_op op_sub pe_int (pv 1)) pe_int)))
      pss_nil)
    (pss_one (ps_ret (pe_op op_cat (pe_lst (pa_cons pe_int pa_nil)) (fcall (ok__law_count T) (hr.mono (by decide)) pass0 (pa_cons (pv 1) pa_nil)))))))
      pss_nil)
    (pss_cons (ps_if (pt_cmpR op_eq (pe_ix ix_tup (pv 0) pe_int (fun _ _ => rfl)) pe_str (nomark _))
      (pss_one (ps_ret (pe_op op_cat (pe_lst (pa_cons pe_int pa_nil)) (fcall (ok__law_written_text T) (hr.mono (by decide)) pass0 (pa_cons (pe_ix ix_tup (pv 0) pe_int (fun _ _ => rfl)) pa_nil)))))
      pss_nil)
    (pss_one (ps_ret (pe_op op_cat (pe_lst (pa_cons pe_int pa_nil)) (fcall (ok__law_written_reference T) (hr.mono (by decide)) pass0 (pa_cons (pv 0) pa_nil)))))))))), ?_⟩
  cases t with
  | non =>
    obtain ⟨a, x, rfl, hS, h1⟩ := dT1 hd
    rw [dS] at h1
    subst h1
    walk_at "wk"
    refine ix_t hS rfl ?_
    walk_at "wk"
    exact Gv.go (.one .c) rfl hl (Same.refl H) k
  | bl b =>
    obtain ⟨a, x, y, rfl, hS, h1, h2⟩ := dT2 hd
    rw [dS] at h1
    rw [dB] at h2
    subst h1 h2
    walk_at "wk"
    refine ix_t hS rfl ?_
    walk_at "wk"
    refine ix_t hS rfl ?_
    walk_at "wk"
    refine Gv.go (.one (i := if b then 2 else 1) fun H2 s2 Q2 k2 => ?_) rfl hl (Same.refl H) k
    walk_at "wp"
    refine ix_t ((TupKeep.of s2).sqT hS) rfl (.inr ⟨_, rfl, ?_⟩)
    cases b <;> exact k2 _ (Same.refl _)
  | int i =>
    obtain ⟨a, x, y, rfl, hS, h1, h2⟩ := dT2 hd
    rw [dS] at h1
    rw [dI] at h2
    subst h1 h2
    obtain ⟨o1, o2⟩ := ho
    walk_at "wk"
    refine ix_t hS rfl ?_
    walk_at "wk"
    refine ix_t hS rfl ?_
    walk_at "wk"
    refine ix_t hS rfl ?_
    have hd2 : ∀ j : Int, j = (zig i : Int) → Dp K H (.int j) (pN (zig i)) := fun j e => by
      rw [pN, dI, e]
    have hz : zig i ≤ 2000000000 := by
      unfold zig
      split <;> omega
    walk_at "wk"
    refine ix_t hS rfl ?_
    walk_at "wk"
    refine ⟨.inl (by decide), ?_⟩
    split
    · rename_i c
      refine Gv.go (.cat (.one .c) (.call (zig i) (.var rfl (hd2 _ ?_)) (cok hz))) rfl hl (Same.refl H) k
      unfold zig
      rw [if_neg (by omega)]
      omega
    · rename_i c
      refine Gv.go (.cat (.one .c) (.call (zig i) (.var rfl (hd2 _ ?_)) (cok hz))) rfl hl (Same.refl H) k
      unfold zig
      rw [if_pos (by omega)]
      omega
  | txt ks =>
    obtain ⟨a, x, y, rfl, hS, h1, h2⟩ := dT2 hd
    rw [dS] at h1
    subst h1
    walk_at "wk"
    refine ix_t hS rfl ?_
    walk_at "wk"
    refine ix_t hS rfl ?_
    walk_at "wk"
    refine ix_t hS rfl ?_
    walk_at "wk"
    refine ix_t hS rfl ?_
    walk_at "wk"
    exact Gv.go (.cat (.one .c) (.call ks (.ix rfl hS rfl h2) ho.1)) rfl hl (Same.refl H) k
  | ref r =>
    obtain ⟨a, u, y, z, rfl, hS, h0, h1, h2⟩ := dT3 hd
    rw [dS] at h0
    subst h0
    cases hr0 : r.p <;> (
      rw [hr0] at hS
      walk_at "wk"
      refine ix_t hS rfl ?_
      walk_at "wk"
      refine ix_t hS rfl ?_
      walk_at "wk"
      refine ix_t hS rfl ?_
      walk_at "wk"
      refine ix_t hS rfl ?_
      walk_at "wk"
      exact Gv.go (.cat (.one .c) (.call r (.var rfl hd) ho)) rfl hl (Same.refl H) k)
theorem ok__law_row (T : Txt K mg) : OkF P w K mg base CX0 "_law_row" 2 ["rows"] (spRow K) := by
  refine mkF T.d__law_row T.g__law_row sc__law_row bw__law_row (fun vs H Q E h => l1 h) (fun cdv A outer s H vs Q E hr h => ?_)
  obtain ⟨a, rfl, p, ys, ls, rfl, hS, hA, hn, hl, k⟩ := h
  refine ⟨_, PSs.nox ((pss_cons (ps_set (i := 1) sc__law_row.nd rfl (by first | exact Or.inl rfl | exact Or.inr rfl) (fcall (ok__law_count T) (hr.mono (by decide)) pass0 (pa_cons (pe_callB call_len_seq (by rfl) T.n_len PySem.boot_len (pa_cons (pv 0) pa_nil)) pa_nil)))
    (pss_cons (ps_for PassesOwn.never rfl (pi_list (pv 0)) (pg_name (i := 2) sc__law_row.nd rfl (by first | exact Or.inl rfl | exact Or.inr rfl))
      (pss_one (ps_set (i := 1) sc__law_row.nd rfl (by first | exact Or.inl rfl | exact Or.inr rfl) (pe_op op_cat (pv 1) (pv 2)))))
    (pss_one (ps_ret (pv 1)))))), ?_⟩
  have hl2 := hl
  rw [List.length_append] at hl2
  walk_at "wp"
  refine ⟨p, ys, rfl, .inl hS, ?_⟩
  rw [hA.len]
  refine wcall ls.length (.int _) (cok (by omega)) (by omega) fun p1 H1 s1 np1 e1 => ?_
  refine forL (fun i σ H2 => ∃ q y, σ = [some (.ref p), some (.ref q), y] ∧ H q = none ∧ H2 q = some (.lst (vints (cntd ls.length ++ (ls.take i).flatten))) ∧ Same H H2) ((SeqKeep.of s1).sqL hS) ⟨p1, none, rfl, np1, ?_, s1⟩ (fun i σ H2 _ h => ?_) ?_ ?_
  · rw [e1]
    simp
  · obtain ⟨q, y, _, _, _, s2⟩ := h
    exact (SeqKeep.of s2).sqL hS
  · rintro i x σ H2 hx ⟨q, y, rfl, nq, e2, s2⟩
    have hlt : i < ls.length := by rw [← hA.len]; exact (List.getElem?_eq_some_iff.mp hx).1
    obtain ⟨v, hv, r, rfl, hr⟩ := hA.get (List.getElem?_eq_getElem hlt)
    rw [hx] at hv
    cases hv
    walk_at "wp"
    have hz : ((ls.take i).flatten ++ ls[i]).length ≤ ls.flatten.length := by
      have : ls.flatten = (ls.take (i + 1)).flatten ++ (ls.drop (i + 1)).flatten := by rw [← List.flatten_append, List.take_append_drop]
      rw [this, List.take_add_one, List.getElem?_eq_getElem hlt]
      simp only [Option.toList, List.flatten_append, List.flatten_cons, List.flatten_nil, List.append_nil, List.length_append]
      omega
    rw [List.length_append] at hz
    refine catw e2 (s2 _ _ hr) (by rw [List.length_append, List.length_append]; omega) fun p3 np3 => ⟨p3, _, rfl, s2.free np3, ?_, Same.put s2 (s2.free np3)⟩
    rw [upd_same, List.take_add_one, List.getElem?_eq_getElem hlt]
    simp only [Option.toList, List.flatten_append, List.flatten_cons, List.flatten_nil, List.append_nil, List.append_assoc]
  · rintro σ H2 ⟨q, y, rfl, nq, e2, s2⟩
    rw [hA.len, List.take_length] at e2
    walk_at "wp"
    exact k _ _ s2 nq e2
end
end Kt
set_option Elab.async false
set_option linter.all false
set_option maxRecDepth 100000
set_option maxHeartbeats 4000000
namespace Kt
open PySem PySem.Spec PyProof.Rows L2 Vl
local macro_rules | `(tactic| walk_at "wp") => `(tactic| simp only [L2.start, cxK, a_seq, a_next, a_asg, a_ret, a_retN, a_drop, a_ifS, a_break, a_cont, a_c, a_op, a_un, a_nil, a_cons, a_tup, a_lst, a_call, a_meth, a_make, a_cb, a_bm0, a_bm, a_fld, a_sfld, a_test, a_tB, a_and, a_or, a_not, a_if, a_sl, a_noPart, a_part,
  a_for, a_iTup, a_iList, a_iStr, a_iRng1, a_iRng2, rng1, rng2, a_lc, a_yes, a_gTup, a_gCons, a_gNil, a_gSub, wipe, List.set_cons_zero, List.set_cons_succ,
  v0, v1, v2, v3, v4, v5, v6, v7, v8, v9, v10, n0, n1, n2, n3, n4, n5, n6, n7, n8, n9, n10, i_0, i_c, i_u, e_i, e_s, e_b, e_n, ne_i, ne_s, ne_b, tst, tsi, tss, tsr, Vl.s0, Vl.s1, Vl.s2, Vl.s3, Vl.s4, Vl.s5, List.map_cons, List.map_nil, List.length_cons, List.length_nil, List.replicate, List.cons_append, List.nil_append, Nat.reduceAdd, Nat.reduceSub, decide_eq_true_eq, ofS, String.reduceEq, decide_true, decide_false, Bool.false_eq_true, Bool.not_true, Bool.not_false, if_true, if_false])
local macro_rules | `(tactic| walk_at "wk") => `(tactic| simp only [L2.start, cxK, a_seq, a_next, a_asg, a_ret, a_retN, a_drop, a_ifS, a_break, a_cont, a_c, q_eq, q_ne, q_in, q_ix, q_i0, q_iC, a_un, a_nil, a_cons, a_tup, a_meth, a_make, a_cb, a_bm0, a_bm, a_fld, a_sfld, a_test, a_tB, a_and, a_or, a_not, a_if, a_sl, a_noPart, a_part,
  a_for, a_iTup, a_iList, a_iStr, a_iRng1, a_iRng2, rng1, rng2, a_lc, a_yes, a_gTup, a_gCons, a_gNil, a_gSub, wipe, List.set_cons_zero, List.set_cons_succ,
  v0, v1, v2, v3, v4, v5, v6, v7, v8, v9, v10, n0, n1, n2, n3, n4, n5, n6, n7, n8, n9, n10, i_0, i_c, i_u, e_i, e_s, e_b, e_n, ne_i, ne_s, ne_b, tst, tsi, tss, tsr, Vl.s0, Vl.s1, Vl.s2, Vl.s3, Vl.s4, Vl.s5, List.map_cons, List.map_nil, List.length_cons, List.length_nil, List.replicate, List.cons_append, List.nil_append, Nat.reduceAdd, Nat.reduceSub, decide_eq_true_eq, ofS, String.reduceEq, decide_true, decide_false, Bool.false_eq_true, Bool.not_true, Bool.not_false, if_true, if_false])
section
variable {P : Program} {w : World} {K : PySem.W.Frag} {mg : Str → Option Value} {base : Heap}
theorem ok__law_written_value (T : Txt K mg) : OkF P w K mg base CX0 "_law_written_value" 4 ["value"] (spW K DVa.d DVa.ok DVa.e) := by
  refine mkF T.d__law_written_value T.g__law_written_value sc__law_written_value bw__law_written_value (fun vs H Q E h => l1 h) (fun cdv A outer s H vs Q E hr h => ?_)
  obtain ⟨a, rfl, x, hd, ho, hl, k⟩ := h
  refine ⟨_, PSs.nox ((pss_cons (ps_if (pt_cmpR op_eq (pe_ix ix_tup (pv 0) pe_int (fun _ _ => rfl)) pe_str (nomark _))
      (pss_one (ps_ret (pe_op op_cat (pe_lst (pa_cons pe_int pa_nil)) (fcall (ok__law_row T) (hr.mono (by decide)) pass0 (pa_cons (pe_lc (own := [("atom", 1)]) (g := gName 1) (tt := tYes) rfl sc__law_written_value.nd (pi_tup (pe_ix ix_tup (pv 0) pe_int (fun _ _ => rfl))) (blkOk_by (N := ["value", "atom"]) (sc := defScope s__law_written_value) (by decide +kernel)) (fun _ _ _ _ _ => pg_name (i := 1) sc__law_written_value.nd rfl (Or.inl rfl)) (fun _ _ _ _ _ => pts_nil) (fun _ _ _ _ _ => (fcall (ok__law_written_atom T) (hr.mono (by decide)) pass0 (pa_cons (pv 1) pa_nil)))) pa_nil)))))
      pss_nil)
    (pss_one (ps_ret (pe_op op_cat (pe_lst (pa_cons pe_int pa_nil)) (fcall (ok__law_written_atom T) (hr.mono (by decide)) pass0 (pa_cons (pv 0) pa_nil))))))), ?_⟩
  cases x with
  | one t =>
    obtain ⟨a, xs, rfl, hS, hx⟩ := at_head _ hd
    walk_at "wk"
    refine ix_t hS (atI_nat (j := 0) hx) ?_
    rw [e_s, decide_eq_false (show ¬ Str.ofString t.kd = Str.ofString "list" by rw [ofS]; exact kd_list _)]
    walk_at "wk"
    exact Gv.go (.cat (.one .c) (.call t (.var rfl hd) ho)) rfl hl (Same.refl H) k
  | lst as =>
    obtain ⟨a, y, z, rfl, hS, h1, h2⟩ := dT2 hd
    rw [dS] at h1
    subst h1
    walk_at "wk"
    refine ix_t hS rfl ?_
    walk_at "wk"
    exact Gv.go (.cat (.one .c) (.row as (.ix rfl hS rfl h2) ho.2 (Nat.le_trans ho.1 (by decide)) (show 1 < 2 by decide))) rfl hl (Same.refl H) k
theorem ok__law_written_values (T : Txt K mg) : OkF P w K mg base CX0 "_law_written_values" 5 ["values"] (spW K (fun ws : List DVa => .tuple (ws.map DVa.d)) (fun ws => ws.length ≤ 1000000 ∧ ∀ x ∈ ws, x.ok) (rowd DVa.e)) := by
  refine mkF T.d__law_written_values T.g__law_written_values sc__law_written_values bw__law_written_values (fun vs H Q E h => l1 h) (fun cdv A outer s H vs Q E hr h => ?_)
  obtain ⟨a, rfl, ws, hd, ho, hl, k⟩ := h
  refine ⟨_, PSs.nox ((pss_one (ps_ret (fcall (ok__law_row T) (hr.mono (by decide)) pass0 (pa_cons (pe_lc (own := [("value", 1)]) (g := gName 1) (tt := tYes) rfl sc__law_written_values.nd (pi_tup (pv 0)) (blkOk_by (N := ["values", "value"]) (sc := defScope s__law_written_values) (by decide +kernel)) (fun _ _ _ _ _ => pg_name (i := 1) sc__law_written_values.nd rfl (Or.inl rfl)) (fun _ _ _ _ _ => pts_nil) (fun _ _ _ _ _ => (fcall (ok__law_written_value T) (hr.mono (by decide)) pass0 (pa_cons (pv 1) pa_nil)))) pa_nil))))), ?_⟩
  walk_at "wk"
  refine Gv.go (.row ws (.var (i := 0) rfl hd) ho.2 ho.1 (show 1 < 2 by decide)) rfl hl (Same.refl H) k
theorem ok__law_written_weight (T : Txt K mg) : OkF P w K mg base CX0 "_law_written_weight" 2 ["weight"] (spW K DWt.d DWt.ok DWt.en) := by
  refine mkF T.d__law_written_weight T.g__law_written_weight sc__law_written_weight bw__law_written_weight (fun vs H Q E h => l1 h) (fun cdv A outer s H vs Q E hr h => ?_)
  obtain ⟨a, rfl, x, hd, ho, hl, k⟩ := h
  refine ⟨_, PSs.nox ((pss_one (ps_ret (pe_op op_cat (fcall (ok__law_count T) (hr.mono (by decide)) pass0 (pa_cons (pe_ix ix_tup (pv 0) pe_int (fun _ _ => rfl)) pa_nil)) (fcall (ok__law_count T) (hr.mono (by decide)) pass0 (pa_cons (pe_ix ix_tup (pv 0) pe_int (fun _ _ => rfl)) pa_nil)))))), ?_⟩
  obtain ⟨a, y, z, rfl, hS, h1, h2⟩ := dT2 hd
  obtain ⟨o1, o2, o3, o4⟩ := ho
  walk_at "wk"
  exact Gv.go (.cat (.call x.m (.ix rfl hS rfl h1) o2) (.call x.e (.ix rfl hS rfl h2) (cok (by omega)))) rfl hl (Same.refl H) k
theorem ok__law_shares (T : Txt K mg) : OkF P w K mg base CX0 "_law_shares" 3 ["shares"] (spW K (fun ws : List DWt => .tuple (ws.map DWt.d)) (fun ws => ws.length ≤ 1000000 ∧ ∀ x ∈ ws, x.ok) (rowd DWt.en)) := by
  refine mkF T.d__law_shares T.g__law_shares sc__law_shares bw__law_shares (fun vs H Q E h => l1 h) (fun cdv A outer s H vs Q E hr h => ?_)
  obtain ⟨a, rfl, ws, hd, ho, hl, k⟩ := h
  refine ⟨_, PSs.nox ((pss_one (ps_ret (fcall (ok__law_row T) (hr.mono (by decide)) pass0 (pa_cons (pe_lc (own := [("share", 1)]) (g := gName 1) (tt := tYes) rfl sc__law_shares.nd (pi_tup (pv 0)) (blkOk_by (N := ["shares", "share"]) (sc := defScope s__law_shares) (by decide +kernel)) (fun _ _ _ _ _ => pg_name (i := 1) sc__law_shares.nd rfl (Or.inl rfl)) (fun _ _ _ _ _ => pts_nil) (fun _ _ _ _ _ => (fcall (ok__law_written_weight T) (hr.mono (by decide)) pass0 (pa_cons (pv 1) pa_nil)))) pa_nil))))), ?_⟩
  walk_at "wk"
  refine Gv.go (.row ws (.var (i := 0) rfl hd) ho.2 ho.1 (show 1 < 2 by decide)) rfl hl (Same.refl H) k
theorem ok__law_written_send (T : Txt K mg) : OkF P w K mg base CX0 "_law_written_send" 2 ["send"] (spW K DSd.d DSd.ok DSd.e) := by
  refine mkF T.d__law_written_send T.g__law_written_send sc__law_written_send bw__law_written_send (fun vs H Q E h => l1 h) (fun cdv A outer s H vs Q E hr h => ?_)
  obtain ⟨a, rfl, x, hd, ho, hl, k⟩ := h
  refine ⟨_, PSs.nox ((pss_one (ps_ret (pe_op op_cat (fcall (ok__law_count T) (hr.mono (by decide)) pass0 (pa_cons (pe_ix ix_tup (pv 0) pe_int (fun _ _ => rfl)) pa_nil)) (fcall (ok__law_count T) (hr.mono (by decide)) pass0 (pa_cons (pe_ix ix_tup (pv 0) pe_int (fun _ _ => rfl)) pa_nil)))))), ?_⟩
  obtain ⟨a, y, z, rfl, hS, h1, h2⟩ := dT2 hd
  obtain ⟨o1, o2, o3, o4⟩ := ho
  walk_at "wk"
  exact Gv.go (.cat (.call x.v (.ix rfl hS rfl h1) (cok (by omega))) (.call x.n (.ix rfl hS rfl h2) (cok (by omega)))) rfl hl (Same.refl H) k
theorem ok__law_written_message (T : Txt K mg) : OkF P w K mg base CX0 "_law_written_message" 5 ["message"] (spW K DMsg.d DMsg.ok DMsg.e) := by
  refine mkF T.d__law_written_message T.g__law_written_message sc__law_written_message bw__law_written_message (fun vs H Q E h => l1 h) (fun cdv A outer s H vs Q E hr h => ?_)
  obtain ⟨a, rfl, m, hd, ho, hl, k⟩ := h
  refine ⟨_, PSs.nox ((pss_cons (ps_set (i := 1) sc__law_written_message.nd rfl (by first | exact Or.inl rfl | exact Or.inr rfl) (pe_op op_cat (pe_op op_cat (fcall (ok__law_written_send T) (hr.mono (by decide)) pass0 (pa_cons (pe_ix ix_tup (pv 0) pe_int (fun _ _ => rfl)) pa_nil)) (fcall (ok__law_written_reference T) (hr.mono (by decide)) pass0 (pa_cons (pe_ix ix_tup (pv 0) pe_int (fun _ _ => rfl)) pa_nil))) (fcall (ok__law_count T) (hr.mono (by decide)) pass0 (pa_cons (pe_ix ix_tup (pv 0) pe_int (fun _ _ => rfl)) pa_nil))))
    (pss_cons (ps_set (i := 1) sc__law_written_message.nd rfl (by first | exact Or.inl rfl | exact Or.inr rfl) (pe_op op_cat (pe_op op_cat (pv 1) (fcall (ok__law_written_text T) (hr.mono (by decide)) pass0 (pa_cons (pe_ix ix_tup (pv 0) pe_int (fun _ _ => rfl)) pa_nil))) (fcall (ok__law_row T) (hr.mono (by decide)) pass0 (pa_cons (pe_lc (own := [("value", 2)]) (g := gName 2) (tt := tYes) rfl sc__law_written_message.nd (pi_tup (pe_ix ix_tup (pv 0) pe_int (fun _ _ => rfl))) (blkOk_by (N := ["message", "numbers", "value", "send"]) (sc := defScope s__law_written_message) (by decide +kernel)) (fun _ _ _ _ _ => pg_name (i := 2) sc__law_written_message.nd rfl (Or.inl rfl)) (fun _ _ _ _ _ => pts_nil) (fun _ _ _ _ _ => (fcall (ok__law_written_value T) (hr.mono (by decide)) pass0 (pa_cons (pv 2) pa_nil)))) pa_nil))))
    (pss_one (ps_ret (pe_op op_cat (pv 1) (fcall (ok__law_row T) (hr.mono (by decide)) pass0 (pa_cons (pe_lc (own := [("send", 3)]) (g := gName 3) (tt := tYes) rfl sc__law_written_message.nd (pi_tup (pe_ix ix_tup (pv 0) pe_int (fun _ _ => rfl))) (blkOk_by (N := ["message", "numbers", "value", "send"]) (sc := defScope s__law_written_message) (by decide +kernel)) (fun _ _ _ _ _ => pg_name (i := 3) sc__law_written_message.nd rfl (Or.inl rfl)) (fun _ _ _ _ _ => pts_nil) (fun _ _ _ _ _ => (fcall (ok__law_written_send T) (hr.mono (by decide)) pass0 (pa_cons (pv 3) pa_nil)))) pa_nil)))))))), ?_⟩
  obtain ⟨a, x1, x2, x3, x4, x5, x6, rfl, hS, h1, h2, h3, h4, h5, h6⟩ := dT6 hd
  obtain ⟨o1, o2, ⟨o3, o3b⟩, o4, o5, o6⟩ := ho
  have hl2 := hl
  simp only [DMsg.e, List.length_append] at hl2
  walk_at "wk"
  refine Gv.go (.cat (.cat (.call m.send (.ix rfl hS rfl h1) o1) (.call m.target (.ix rfl hS rfl h2) o2)) (.call m.place (.ix rfl hS rfl h3) (cok (by omega)))) rfl (by simp only [List.length_append]; omega) (Same.refl H) fun p H1 s1 np1 e1 => ?_
  have hS1 := (TupKeep.of s1).sqT hS
  refine Gv.go (.cat (.catv rfl e1 (.call m.method (.ix rfl hS1 rfl ((SeqKeep.of s1).dp h4)) (fun k hk => Nat.lt_trans (o4.1 k hk).2 (by decide)))) (.row m.args (.ix rfl hS1 rfl ((SeqKeep.of s1).dp h5)) o5.2 (by omega) (show 2 < 4 by decide))) rfl (by simp only [List.length_append]; omega) s1 fun p2 H2 s2 np2 e2 => ?_
  have hS2 := (TupKeep.of s2).sqT hS
  exact Gv.go (.catv rfl e2 (.row m.path (.ix rfl hS2 rfl ((SeqKeep.of s2).dp h6)) o6.2 (by omega) (show 3 < 4 by decide))) (by rw [DMsg.e]) hl s2 k
theorem ok__law_written_target (T : Txt K mg) : OkF P w K mg base CX0 "_law_written_target" 2 ["target"] (spW K DTg.d DTg.ok DTg.e) := by
  refine mkF T.d__law_written_target T.g__law_written_target sc__law_written_target bw__law_written_target (fun vs H Q E h => l1 h) (fun cdv A outer s H vs Q E hr h => ?_)
  obtain ⟨a, rfl, t, hd, ho, hl, k⟩ := h
  refine ⟨_, PSs.nox ((pss_cons (ps_if (pt_cmpR op_eq (pe_ix ix_tup (pv 0) pe_int (fun _ _ => rfl)) pe_str (nomark _))
      (pss_one (ps_ret (pe_op op_cat (pe_op op_cat (pe_lst (pa_cons pe_int pa_nil)) (fcall (ok__law_count T) (hr.mono (by decide)) pass0 (pa_cons (pe_ix ix_tup (pv 0) pe_int (fun _ _ => rfl)) pa_nil))) (fcall (ok__law_count T) (hr.mono (by decide)) pass0 (pa_cons (pe_ix ix_tup (pv 0) pe_int (fun _ _ => rfl)) pa_nil)))))
      pss_nil)
    (pss_one (ps_ret (pe_op op_cat (pe_lst (pa_cons (pe_callTy call_int1 (by rfl) T.n_int (by decide +kernel) (pa_cons (pe_cmpR op_eq (pe_ix ix_tup (pv 0) pe_int (fun _ _ => rfl)) pe_str (nomark _)) pa_nil)) pa_nil)) (fcall (ok__law_count T) (hr.mono (by decide)) pass0 (pa_cons (pe_ix ix_tup (pv 0) pe_int (fun _ _ => rfl)) pa_nil))))))), ?_⟩
  cases t with
  | obj n =>
    obtain ⟨a, y, z, rfl, hS, h1, h2⟩ := dT2 hd
    rw [dS] at h1
    subst h1
    obtain ⟨o1, o2⟩ := ho
    walk_at "wk"
    refine ix_t hS rfl ?_
    walk_at "wk"
    refine Gv.go (.cat (.one (i := 0) fun H2 s2 Q2 k2 => ?_) (.call n (.ix rfl hS rfl h2) (cok (by omega)))) rfl hl (Same.refl H) k
    walk_at "wp"
    refine ix_t ((TupKeep.of s2).sqT hS) rfl ?_
    walk_at "wp"
    exact .inr ⟨_, rfl, k2 _ (Same.refl _)⟩
  | prom n =>
    obtain ⟨a, y, z, rfl, hS, h1, h2⟩ := dT2 hd
    rw [dS] at h1
    subst h1
    obtain ⟨o1, o2⟩ := ho
    walk_at "wk"
    refine ix_t hS rfl ?_
    walk_at "wk"
    refine Gv.go (.cat (.one (i := 1) fun H2 s2 Q2 k2 => ?_) (.call n (.ix rfl hS rfl h2) (cok (by omega)))) rfl hl (Same.refl H) k
    walk_at "wp"
    refine ix_t ((TupKeep.of s2).sqT hS) rfl ?_
    walk_at "wp"
    exact .inr ⟨_, rfl, k2 _ (Same.refl _)⟩
  | ans v q =>
    obtain ⟨a, y, z, u, rfl, hS, h1, h2, h3⟩ := dT3 hd
    rw [dS] at h1
    subst h1
    obtain ⟨⟨o0, o0b⟩, o1, o2⟩ := ho
    walk_at "wk"
    refine ix_t hS rfl ?_
    walk_at "wk"
    exact Gv.go (.cat (.cat (.one .c) (.call v (.ix rfl hS rfl h2) (cok (by omega)))) (.call q (.ix rfl hS rfl h3) (cok (by omega)))) rfl hl (Same.refl H) k
end
end Kt
set_option Elab.async false
set_option linter.all false
set_option maxRecDepth 100000
set_option maxHeartbeats 4000000
namespace Kt
open PySem PySem.Spec PyProof.Rows L2 Vl
local macro_rules | `(tactic| walk_at "wp") => `(tactic| simp only [L2.start, cxK, a_seq, a_next, a_asg, a_ret, a_retN, a_drop, a_ifS, a_break, a_cont, a_c, a_op, a_un, a_nil, a_cons, a_tup, a_lst, a_call, a_meth, a_make, a_cb, a_bm0, a_bm, a_fld, a_sfld, a_test, a_tB, a_and, a_or, a_not, a_if, a_sl, a_noPart, a_part,
  a_for, a_iTup, a_iList, a_iStr, a_iRng1, a_iRng2, rng1, rng2, a_lc, a_yes, a_gTup, a_gCons, a_gNil, a_gSub, wipe, List.set_cons_zero, List.set_cons_succ,
  v0, v1, v2, v3, v4, v5, v6, v7, v8, v9, v10, n0, n1, n2, n3, n4, n5, n6, n7, n8, n9, n10, i_0, i_c, i_u, e_i, e_s, e_b, e_n, ne_i, ne_s, ne_b, tst, tsi, tss, tsr, Vl.s0, Vl.s1, Vl.s2, Vl.s3, Vl.s4, Vl.s5, List.map_cons, List.map_nil, List.length_cons, List.length_nil, List.replicate, List.cons_append, List.nil_append, Nat.reduceAdd, Nat.reduceSub, decide_eq_true_eq, ofS, String.reduceEq, decide_true, decide_false, Bool.false_eq_true, Bool.not_true, Bool.not_false, if_true, if_false])
local macro_rules | `(tactic| walk_at "wk") => `(tactic| simp only [L2.start, cxK, a_seq, a_next, a_asg, a_ret, a_retN, a_drop, a_ifS, a_break, a_cont, a_c, q_eq, q_ne, q_in, q_ix, q_i0, q_iC, a_un, a_nil, a_cons, a_tup, a_meth, a_make, a_cb, a_bm0, a_bm, a_fld, a_sfld, a_test, a_tB, a_and, a_or, a_not, a_if, a_sl, a_noPart, a_part,
  a_for, a_iTup, a_iList, a_iStr, a_iRng1, a_iRng2, rng1, rng2, a_lc, a_yes, a_gTup, a_gCons, a_gNil, a_gSub, wipe, List.set_cons_zero, List.set_cons_succ,
  v0, v1, v2, v3, v4, v5, v6, v7, v8, v9, v10, n0, n1, n2, n3, n4, n5, n6, n7, n8, n9, n10, i_0, i_c, i_u, e_i, e_s, e_b, e_n, ne_i, ne_s, ne_b, tst, tsi, tss, tsr, Vl.s0, Vl.s1, Vl.s2, Vl.s3, Vl.s4, Vl.s5, List.map_cons, List.map_nil, List.length_cons, List.length_nil, List.replicate, List.cons_append, List.nil_append, Nat.reduceAdd, Nat.reduceSub, decide_eq_true_eq, ofS, String.reduceEq, decide_true, decide_false, Bool.false_eq_true, Bool.not_true, Bool.not_false, if_true, if_false])
section
variable {P : Program} {w : World} {K : PySem.W.Frag} {mg : Str → Option Value} {base : Heap}
theorem ok__law_written_content (T : Txt K mg) : OkF P w K mg base CX0 "_law_written_content" 6 ["content"] (spW K DCo.d DCo.ok (fun c => c.k :: c.e)) := by
  refine mkF T.d__law_written_content T.g__law_written_content sc__law_written_content bw__law_written_content (fun vs H Q E h => l1 h) (fun cdv A outer s H vs Q E hr h => ?_)
  obtain ⟨a, rfl, c, hd, ho, hl, k⟩ := h
  refine ⟨_, PSs.nox ((pss_cons (ps_set (i := 1) sc__law_written_content.nd rfl (by first | exact Or.inl rfl | exact Or.inr rfl) (pe_ix ix_tup (pv 0) pe_int (fun _ _ => rfl)))
    (pss_cons (ps_if (pt_cmpR op_eq (pv 1) pe_str (nomark _))
      (pss_cons (ps_set (i := 2) sc__law_written_content.nd rfl (by first | exact Or.inl rfl | exact Or.inr rfl) (pe_op op_cat (pe_op op_cat (pe_lst (pa_cons pe_int pa_nil)) (fcall (ok__law_written_message T) (hr.mono (by decide)) pass0 (pa_cons (pe_ix ix_tup (pv 0) pe_int (fun _ _ => rfl)) pa_nil))) (fcall (ok__law_written_target T) (hr.mono (by decide)) pass0 (pa_cons (pe_ix ix_tup (pv 0) pe_int (fun _ _ => rfl)) pa_nil))))
    (pss_one (ps_ret (pe_op op_cat (pe_op op_cat (pe_op op_cat (pv 2) (fcall (ok__law_written_weight T) (hr.mono (by decide)) pass0 (pa_cons (pe_ix ix_tup (pv 0) pe_int (fun _ _ => rfl)) pa_nil))) (fcall (ok__law_count T) (hr.mono (by decide)) pass0 (pa_cons (pe_ix ix_tup (pv 0) pe_int (fun _ _ => rfl)) pa_nil))) (fcall (ok__law_shares T) (hr.mono (by decide)) pass0 (pa_cons (pe_ix ix_tup (pv 0) pe_int (fun _ _ => rfl)) pa_nil))))))
      pss_nil)
    (pss_cons (ps_if (PW.pt (pw_or (pt_cmpR op_eq (pv 1) pe_str (nomark _)) (pw_or1 (pt_cmpR op_eq (pv 1) pe_str (nomark _)))))
      (pss_one (ps_ret (pe_op op_cat (pe_op op_cat (pe_op op_cat (pe_lst (pa_cons (pe_op op_add pe_int (pe_op op_mul pe_int (pe_callTy call_int1 (by rfl) T.n_int (by decide +kernel) (pa_cons (pe_cmpR op_eq (pv 1) pe_str (nomark _)) pa_nil)))) pa_nil)) (fcall (ok__law_count T) (hr.mono (by decide)) pass0 (pa_cons (pe_ix ix_tup (pv 0) pe_int (fun _ _ => rfl)) pa_nil))) (fcall (ok__law_written_value T) (hr.mono (by decide)) pass0 (pa_cons (pe_ix ix_tup (pv 0) pe_int (fun _ _ => rfl)) pa_nil))) (fcall (ok__law_shares T) (hr.mono (by decide)) pass0 (pa_cons (pe_ix ix_tup (pv 0) pe_int (fun _ _ => rfl)) pa_nil)))))
      pss_nil)
    (pss_cons (ps_if (PW.pt (pw_or (pt_cmpR op_eq (pv 1) pe_str (nomark _)) (pw_or1 (pt_cmpR op_eq (pv 1) pe_str (nomark _)))))
      (pss_one (ps_ret (pe_op op_cat (pe_op op_cat (pe_lst (pa_cons (pe_op op_add pe_int (pe_op op_mul pe_int (pe_callTy call_int1 (by rfl) T.n_int (by decide +kernel) (pa_cons (pe_cmpR op_eq (pv 1) pe_str (nomark _)) pa_nil)))) pa_nil)) (fcall (ok__law_count T) (hr.mono (by decide)) pass0 (pa_cons (pe_ix ix_tup (pv 0) pe_int (fun _ _ => rfl)) pa_nil))) (fcall (ok__law_written_text T) (hr.mono (by decide)) pass0 (pa_cons (pe_ix ix_tup (pv 0) pe_int (fun _ _ => rfl)) pa_nil)))))
      pss_nil)
    (pss_cons (ps_if (pt_cmpR op_eq (pv 1) pe_str (nomark _))
      (pss_one (ps_ret (pe_op op_cat (pe_op op_cat (pe_lst (pa_cons pe_int pa_nil)) (fcall (ok__law_count T) (hr.mono (by decide)) pass0 (pa_cons (pe_ix ix_tup (pv 0) pe_int (fun _ _ => rfl)) pa_nil))) (fcall (ok__law_written_weight T) (hr.mono (by decide)) pass0 (pa_cons (pe_ix ix_tup (pv 0) pe_int (fun _ _ => rfl)) pa_nil)))))
      pss_nil)
    (pss_cons (ps_if (pt_cmpR op_eq (pv 1) pe_str (nomark _))
      (pss_one (ps_ret (pe_op op_cat (pe_op op_cat (pe_lst (pa_cons pe_int pa_nil)) (fcall (ok__law_written_reference T) (hr.mono (by decide)) pass0 (pa_cons (pe_ix ix_tup (pv 0) pe_int (fun _ _ => rfl)) pa_nil))) (fcall (ok__law_written_weight T) (hr.mono (by decide)) pass0 (pa_cons (pe_ix ix_tup (pv 0) pe_int (fun _ _ => rfl)) pa_nil)))))
      pss_nil)
    (pss_cons (ps_if (pt_cmpR op_eq (pv 1) pe_str (nomark _))
      (pss_one (ps_ret (pe_op op_cat (pe_op op_cat (pe_lst (pa_cons pe_int pa_nil)) (fcall (ok__law_count T) (hr.mono (by decide)) pass0 (pa_cons (pe_ix ix_tup (pv 0) pe_int (fun _ _ => rfl)) pa_nil))) (fcall (ok__law_written_weight T) (hr.mono (by decide)) pass0 (pa_cons (pe_ix ix_tup (pv 0) pe_int (fun _ _ => rfl)) pa_nil)))))
      pss_nil)
    (pss_one (ps_ret (pe_op op_cat (pe_op op_cat (pe_lst (pa_cons pe_int pa_nil)) (fcall (ok__law_written_value T) (hr.mono (by decide)) pass0 (pa_cons (pe_ix ix_tup (pv 0) pe_int (fun _ _ => rfl)) pa_nil))) (fcall (ok__law_shares T) (hr.mono (by decide)) pass0 (pa_cons (pe_ix ix_tup (pv 0) pe_int (fun _ _ => rfl)) pa_nil))))))))))))), ?_⟩
  cases c with
  | message m t wt q sh =>
    obtain ⟨a, x1, x2, x3, x4, x5, x6, rfl, hS, h1, h2, h3, h4, h5, h6⟩ := dT6 hd
    rw [dS] at h1
    subst h1
    obtain ⟨o1, o2, o3, ⟨o4, o4b⟩, o5, o6⟩ := ho
    have hq : sh.length ≤ 1000000 := shl hl
    have hl2 := hl
    simp only [DCo.e, DCo.k, List.length_append, List.length_cons] at hl2
    walk_at "wk"
    refine ix_t hS rfl ?_
    walk_at "wk"
    refine Gv.go (.cat (.cat (.one .c) (.call m (.ix rfl hS rfl h2) o1)) (.call t (.ix rfl hS rfl h3) o2)) rfl (by simp only [List.length_append, List.length_cons, List.length_nil]; omega) (Same.refl H) fun p H1 s1 np1 e1 => ?_
    have hS1 := (TupKeep.of s1).sqT hS
    exact Gv.go (.cat (.cat (.catv rfl e1 (.call wt (.ix rfl hS1 rfl ((SeqKeep.of s1).dp h4)) o3)) (.call q (.ix rfl hS1 rfl ((SeqKeep.of s1).dp h5)) (cok (by omega)))) (.call sh (.ix rfl hS1 rfl ((SeqKeep.of s1).dp h6)) ⟨hq, o6⟩)) rfl hl s1 k
  | fulfill r n x sh =>
    obtain ⟨a, x1, x2, x3, x4, rfl, hS, h1, h2, h3, h4⟩ := dT4 hd
    rw [dS] at h1
    subst h1
    obtain ⟨⟨o1, o1b⟩, o2, o3, o4⟩ := ho
    have hq : sh.length ≤ 1000000 := shl2 hl
    cases r <;> (
      walk_at "wk"
      refine ix_t hS rfl ?_
      walk_at "wk"
      refine Gv.go (.cat (.cat (.cat (.one fun H2 s2 Q2 k2 => ?_) (.call n (.ix rfl hS rfl h2) (cok (by omega)))) (.call x (.ix rfl hS rfl h3) o2)) (.call sh (.ix rfl hS rfl h4) ⟨hq, o4⟩)) rfl hl (Same.refl H) k
      walk_at "wp"
      exact .inr ⟨_, rfl, .inl (by decide), k2 _ (Same.refl _)⟩)
  | brk r n ks =>
    obtain ⟨a, x1, x2, x3, rfl, hS, h1, h2, h3⟩ := dT3 hd
    rw [dS] at h1
    subst h1
    obtain ⟨⟨o1, o1b⟩, o2, o3⟩ := ho
    cases r <;> (
      walk_at "wk"
      refine ix_t hS rfl ?_
      walk_at "wk"
      refine Gv.go (.cat (.cat (.one fun H2 s2 Q2 k2 => ?_) (.call n (.ix rfl hS rfl h2) (cok (by omega)))) (.call ks (.ix rfl hS rfl h3) o2)) rfl hl (Same.refl H) k
      walk_at "wp"
      exact .inr ⟨_, rfl, .inl (by decide), k2 _ (Same.refl _)⟩)
  | subscribe n wt =>
    obtain ⟨a, x1, x2, x3, rfl, hS, h1, h2, h3⟩ := dT3 hd
    rw [dS] at h1
    subst h1
    obtain ⟨⟨o1, o1b⟩, o2⟩ := ho
    walk_at "wk"
    refine ix_t hS rfl ?_
    walk_at "wk"
    exact Gv.go (.cat (.cat (.one .c) (.call n (.ix rfl hS rfl h2) (cok (by omega)))) (.call wt (.ix rfl hS rfl h3) o2)) rfl hl (Same.refl H) k
  | relans n wt =>
    obtain ⟨a, x1, x2, x3, rfl, hS, h1, h2, h3⟩ := dT3 hd
    rw [dS] at h1
    subst h1
    obtain ⟨⟨o1, o1b⟩, o2⟩ := ho
    walk_at "wk"
    refine ix_t hS rfl ?_
    walk_at "wk"
    exact Gv.go (.cat (.cat (.one .c) (.call n (.ix rfl hS rfl h2) (cok (by omega)))) (.call wt (.ix rfl hS rfl h3) o2)) rfl hl (Same.refl H) k
  | release r wt =>
    obtain ⟨a, x1, x2, x3, rfl, hS, h1, h2, h3⟩ := dT3 hd
    rw [dS] at h1
    subst h1
    obtain ⟨o1, o2⟩ := ho
    walk_at "wk"
    refine ix_t hS rfl ?_
    walk_at "wk"
    exact Gv.go (.cat (.cat (.one .c) (.call r (.ix rfl hS rfl h2) o1)) (.call wt (.ix rfl hS rfl h3) o2)) rfl hl (Same.refl H) k
  | transfer x sh =>
    obtain ⟨a, x1, x2, x3, rfl, hS, h1, h2, h3⟩ := dT3 hd
    rw [dS] at h1
    subst h1
    obtain ⟨o1, o2, o3⟩ := ho
    have hq : sh.length ≤ 1000000 := shl3 hl
    walk_at "wk"
    refine ix_t hS rfl ?_
    walk_at "wk"
    exact Gv.go (.cat (.cat (.one .c) (.call x (.ix rfl hS rfl h2) o1)) (.call sh (.ix rfl hS rfl h3) ⟨hq, o3⟩)) rfl hl (Same.refl H) k
theorem ok__law_written_packet (T : Txt K mg) : OkF P w K mg base CX0 "_law_written_packet" 7 ["packet"] (spW K DPk.d DPk.ok DPk.e) := by
  refine mkF T.d__law_written_packet T.g__law_written_packet sc__law_written_packet bw__law_written_packet (fun vs H Q E h => l1 h) (fun cdv A outer s H vs Q E hr h => ?_)
  obtain ⟨a, rfl, p, hd, ho, hl, k⟩ := h
  refine ⟨_, PSs.nox ((pss_cons (ps_set (i := 1) sc__law_written_packet.nd rfl (by first | exact Or.inl rfl | exact Or.inr rfl) (pe_op op_cat (pe_op op_cat (pe_op op_cat (pe_lst (pa_cons pe_int pa_nil)) (fcall (ok__law_count T) (hr.mono (by decide)) pass0 (pa_cons (pe_ix ix_tup (pv 0) pe_int (fun _ _ => rfl)) pa_nil))) (fcall (ok__law_count T) (hr.mono (by decide)) pass0 (pa_cons (pe_ix ix_tup (pv 0) pe_int (fun _ _ => rfl)) pa_nil))) (fcall (ok__law_count T) (hr.mono (by decide)) pass0 (pa_cons (pe_ix ix_tup (pv 0) pe_int (fun _ _ => rfl)) pa_nil))))
    (pss_one (ps_ret (pe_op op_cat (pv 1) (fcall (ok__law_written_content T) (hr.mono (by decide)) pass0 (pa_cons (pe_ix ix_tup (pv 0) pe_int (fun _ _ => rfl)) pa_nil))))))), ?_⟩
  obtain ⟨a, x1, x2, x3, x4, rfl, hS, h1, h2, h3, h4⟩ := dT4 hd
  obtain ⟨⟨o1, o1b⟩, ⟨o2, o2b⟩, ⟨o3, o3b⟩, o4⟩ := ho
  have hl2 := hl
  simp only [DPk.e, List.length_append, List.length_cons] at hl2
  walk_at "wk"
  refine Gv.go (.cat (.cat (.cat (.one .c) (.call p.s (.ix rfl hS rfl h1) (cok (by omega)))) (.call p.r (.ix rfl hS rfl h2) (cok (by omega)))) (.call p.n (.ix rfl hS rfl h3) (cok (by omega)))) rfl (by simp only [List.length_append, List.length_cons, List.length_nil]; omega) (Same.refl H) fun q H1 s1 np1 e1 => ?_
  refine Gv.go (.catv rfl e1 (.call p.c (.ix rfl ((TupKeep.of s1).sqT hS) rfl ((SeqKeep.of s1).dp h4)) o4)) ?_ hl s1 k
  rw [DPk.e]
  simp only [List.append_assoc, List.cons_append, List.nil_append]
theorem ok__law_content (T : Txt K mg) : OkF P w K mg base CX0 "_law_content" 8 ["entry"] (spW K DEn.d DEn.ok (fun x => x.k :: x.c)) := by
  refine mkF T.d__law_content T.g__law_content sc__law_content bw__law_content (fun vs H Q E h => l1 h) (fun cdv A outer s H vs Q E hr h => ?_)
  obtain ⟨a, rfl, c, hd, ho, hl, k⟩ := h
  refine ⟨_, PSs.nox ((pss_cons (ps_set (i := 1) sc__law_content.nd rfl (by first | exact Or.inl rfl | exact Or.inr rfl) (pe_ix ix_tup (pv 0) pe_int (fun _ _ => rfl)))
    (pss_cons (ps_if (pt_cmpR op_eq (pv 1) pe_str (nomark _))
      (pss_one (ps_ret (pe_op op_cat (pe_op op_cat (pe_lst (pa_cons pe_int pa_nil)) (fcall (ok__law_count T) (hr.mono (by decide)) pass0 (pa_cons (pe_ix ix_tup (pv 0) pe_int (fun _ _ => rfl)) pa_nil))) (fcall (ok__law_written_program T) (hr.mono (by decide)) pass0 (pa_cons (pe_ix ix_tup (pv 0) pe_int (fun _ _ => rfl)) pa_nil)))))
      pss_nil)
    (pss_cons (ps_if (pt_cmpR op_eq (pv 1) pe_str (nomark _))
      (pss_one (ps_ret (pe_op op_cat (pe_op op_cat (pe_lst (pa_cons pe_int pa_nil)) (fcall (ok__law_written_text T) (hr.mono (by decide)) pass0 (pa_cons (pe_ix ix_tup (pv 0) pe_int (fun _ _ => rfl)) pa_nil))) (fcall (ok__law_written_values T) (hr.mono (by decide)) pass0 (pa_cons (pe_ix ix_tup (pv 0) pe_int (fun _ _ => rfl)) pa_nil)))))
      pss_nil)
    (pss_cons (ps_if (pt_cmpR op_eq (pv 1) pe_str (nomark _))
      (pss_one (ps_ret (pe_op op_cat (pe_op op_cat (pe_op op_cat (pe_lst (pa_cons pe_int pa_nil)) (fcall (ok__law_written_reference T) (hr.mono (by decide)) pass0 (pa_cons (pe_ix ix_tup (pv 0) pe_int (fun _ _ => rfl)) pa_nil))) (fcall (ok__law_written_text T) (hr.mono (by decide)) pass0 (pa_cons (pe_ix ix_tup (pv 0) pe_int (fun _ _ => rfl)) pa_nil))) (fcall (ok__law_written_values T) (hr.mono (by decide)) pass0 (pa_cons (pe_ix ix_tup (pv 0) pe_int (fun _ _ => rfl)) pa_nil)))))
      pss_nil)
    (pss_cons (ps_if (pt_cmpR op_eq (pv 1) pe_str (nomark _))
      (pss_one (ps_ret (pe_op op_cat (pe_op op_cat (pe_lst (pa_cons pe_int pa_nil)) (fcall (ok__law_count T) (hr.mono (by decide)) pass0 (pa_cons (pe_ix ix_tup (pv 0) pe_int (fun _ _ => rfl)) pa_nil))) (fcall (ok__law_written_value T) (hr.mono (by decide)) pass0 (pa_cons (pe_ix ix_tup (pv 0) pe_int (fun _ _ => rfl)) pa_nil)))))
      pss_nil)
    (pss_cons (ps_if (pt_cmpR op_in_seq (pv 1) (pe_tup (pa_cons pe_str (pa_cons pe_str (pa_cons pe_str pa_nil)))) (by rfl))
      (pss_one (ps_ret (pe_lst (pa_cons (pe_op op_add (pe_bm PySem.F.plainAttrs_list PySem.F.slot_list_index PySem.F.type_list_index mt_index (pe_lst (pa_cons pe_str (pa_cons pe_str (pa_cons pe_str pa_nil)))) (pa_cons (pv 1) pa_nil)) pe_int) pa_nil))))
      pss_nil)
    (pss_cons (ps_if (pt_cmpR op_in_seq (pv 1) (pe_tup (pa_cons pe_str (pa_cons pe_str pa_nil))) (by rfl))
      (pss_one (ps_ret (pe_op op_cat (pe_lst (pa_cons (pe_op op_add pe_int (pe_callTy call_int1 (by rfl) T.n_int (by decide +kernel) (pa_cons (pe_cmpR op_eq (pv 1) pe_str (nomark _)) pa_nil))) pa_nil)) (fcall (ok__law_written_reference T) (hr.mono (by decide)) pass0 (pa_cons (pe_ix ix_tup (pv 0) pe_int (fun _ _ => rfl)) pa_nil)))))
      pss_nil)
    (pss_cons (ps_if (pt_cmpR op_eq (pv 1) pe_str (nomark _))
      (pss_one (ps_ret (pe_op op_cat (pe_lst (pa_cons pe_int pa_nil)) (fcall (ok__law_written_packet T) (hr.mono (by decide)) pass0 (pa_cons (pe_ix ix_tup (pv 0) pe_int (fun _ _ => rfl)) pa_nil)))))
      pss_nil)
    (pss_one (ps_ret (pe_op op_cat (pe_lst (pa_cons pe_int pa_nil)) (fcall (ok__law_row T) (hr.mono (by decide)) pass0 (pa_cons (pe_lc (own := [("one", 2)]) (g := gName 2) (tt := tYes) rfl sc__law_content.nd (pi_tup (pe_ix ix_tup (pv 0) pe_int (fun _ _ => rfl))) (blkOk_by (N := ["entry", "kind", "one"]) (sc := defScope s__law_content) (by decide +kernel)) (fun _ _ _ _ _ => pg_name (i := 2) sc__law_content.nd rfl (Or.inl rfl)) (fun _ _ _ _ _ => pts_nil) (fun _ _ _ _ _ => (fcall (ok__law_written_reference T) (hr.mono (by decide)) pass0 (pa_cons (pv 2) pa_nil)))) pa_nil)))))))))))))), ?_⟩
  cases c with
  | start v ks =>
    obtain ⟨a, x1, x2, x3, rfl, hS, h1, h2, h3⟩ := dT3 hd
    rw [dS] at h1
    subst h1
    obtain ⟨⟨o1, o1b⟩, o2, o3⟩ := ho
    walk_at "wk"
    refine ix_t hS rfl ?_
    walk_at "wk"
    exact Gv.go (.cat (.cat (.one .c) (.call v (.ix rfl hS rfl h2) (cok (by omega)))) (.call ks (.ix rfl hS rfl h3) o2)) rfl hl (Same.refl H) k
  | create nm vs =>
    obtain ⟨a, x1, x2, x3, rfl, hS, h1, h2, h3⟩ := dT3 hd
    rw [dS] at h1
    subst h1
    walk_at "wk"
    refine ix_t hS rfl ?_
    walk_at "wk"
    exact Gv.go (.cat (.cat (.one .c) (.call nm (.ix rfl hS rfl h2) (fun k hk => Nat.lt_trans (ho.1.1 k hk).2 (by decide)))) (.call vs (.ix rfl hS rfl h3) ⟨Nat.le_trans ho.2.1 (by decide), ho.2.2⟩)) rfl hl (Same.refl H) k
  | send r nm vs =>
    obtain ⟨a, x1, x2, x3, x4, rfl, hS, h1, h2, h3, h4⟩ := dT4 hd
    rw [dS] at h1
    subst h1
    walk_at "wk"
    refine ix_t hS rfl ?_
    walk_at "wk"
    exact Gv.go (.cat (.cat (.cat (.one .c) (.call r (.ix rfl hS rfl h2) ho.1)) (.call nm (.ix rfl hS rfl h3) (fun k hk => Nat.lt_trans (ho.2.1.1 k hk).2 (by decide)))) (.call vs (.ix rfl hS rfl h4) ⟨Nat.le_trans ho.2.2.1 (by decide), ho.2.2.2⟩)) rfl hl (Same.refl H) k
  | transfer v x =>
    obtain ⟨a, x1, x2, x3, rfl, hS, h1, h2, h3⟩ := dT3 hd
    rw [dS] at h1
    subst h1
    obtain ⟨⟨o1, o1b⟩, o2⟩ := ho
    walk_at "wk"
    refine ix_t hS rfl ?_
    walk_at "wk"
    exact Gv.go (.cat (.cat (.one .c) (.call v (.ix rfl hS rfl h2) (cok (by omega)))) (.call x (.ix rfl hS rfl h3) o2)) rfl hl (Same.refl H) k
  | take =>
    obtain ⟨a, x1, rfl, hS, h1⟩ := dT1 hd
    rw [dS] at h1
    subst h1
    walk_at "wk"
    refine ix_t hS rfl ?_
    walk_at "wk"
    refine ⟨by decide, fun p np => in_yes [_, _, _] upd_same (by decide +kernel) ?_⟩
    have s1 := Same.new (o := .tup [.str "take", .str "turn", .str "collect"]) np
    walk_at "wk"
    refine Gv.go (.one (i := 4) fun H2 s2 Q2 k2 => ?_) rfl hl s1 k
    walk_at "wp"
    refine ⟨by decide, fun p2 np2 => ⟨ty_lst (.of upd_same), lidx ["take", "turn", "collect"] 0 upd_same rfl (by decide +kernel) ?_⟩⟩
    walk_at "wp"
    exact k2 _ (Same.new np2)
  | turn =>
    obtain ⟨a, x1, rfl, hS, h1⟩ := dT1 hd
    rw [dS] at h1
    subst h1
    walk_at "wk"
    refine ix_t hS rfl ?_
    walk_at "wk"
    refine ⟨by decide, fun p np => in_yes [_, _, _] upd_same (by decide +kernel) ?_⟩
    have s1 := Same.new (o := .tup [.str "take", .str "turn", .str "collect"]) np
    walk_at "wk"
    refine Gv.go (.one (i := 5) fun H2 s2 Q2 k2 => ?_) rfl hl s1 k
    walk_at "wp"
    refine ⟨by decide, fun p2 np2 => ⟨ty_lst (.of upd_same), lidx ["take", "turn", "collect"] 1 upd_same rfl (by decide +kernel) ?_⟩⟩
    walk_at "wp"
    exact k2 _ (Same.new np2)
  | collect =>
    obtain ⟨a, x1, rfl, hS, h1⟩ := dT1 hd
    rw [dS] at h1
    subst h1
    walk_at "wk"
    refine ix_t hS rfl ?_
    walk_at "wk"
    refine ⟨by decide, fun p np => in_yes [_, _, _] upd_same (by decide +kernel) ?_⟩
    have s1 := Same.new (o := .tup [.str "take", .str "turn", .str "collect"]) np
    walk_at "wk"
    refine Gv.go (.one (i := 6) fun H2 s2 Q2 k2 => ?_) rfl hl s1 k
    walk_at "wp"
    refine ⟨by decide, fun p2 np2 => ⟨ty_lst (.of upd_same), lidx ["take", "turn", "collect"] 2 upd_same rfl (by decide +kernel) ?_⟩⟩
    walk_at "wp"
    exact k2 _ (Same.new np2)
  | pin r =>
    obtain ⟨a, x1, x2, rfl, hS, h1, h2⟩ := dT2 hd
    rw [dS] at h1
    subst h1
    walk_at "wk"
    refine ix_t hS rfl ?_
    walk_at "wk"
    refine ⟨by decide, fun p np => in_no [_, _, _] upd_same (by decide +kernel) ?_⟩
    have s1 := Same.new (o := .tup [.str "take", .str "turn", .str "collect"]) np
    walk_at "wk"
    refine ⟨by decide, fun p2 np2 => in_yes [_, _] upd_same (by decide +kernel) ?_⟩
    have s2 := Same.put (o := .tup [.str "pin", .str "release"]) s1 (s1.free np2)
    walk_at "wk"
    refine Gv.go (.cat (.one (i := 7) fun H3 s3 Q2 k2 => ?_) (.call r (.ix rfl ((TupKeep.of s2).sqT hS) rfl ((SeqKeep.of s2).dp h2)) ho)) rfl hl s2 k
    walk_at "wp"
    exact .inr ⟨_, rfl, k2 _ (Same.refl _)⟩
  | release r =>
    obtain ⟨a, x1, x2, rfl, hS, h1, h2⟩ := dT2 hd
    rw [dS] at h1
    subst h1
    walk_at "wk"
    refine ix_t hS rfl ?_
    walk_at "wk"
    refine ⟨by decide, fun p np => in_no [_, _, _] upd_same (by decide +kernel) ?_⟩
    have s1 := Same.new (o := .tup [.str "take", .str "turn", .str "collect"]) np
    walk_at "wk"
    refine ⟨by decide, fun p2 np2 => in_yes [_, _] upd_same (by decide +kernel) ?_⟩
    have s2 := Same.put (o := .tup [.str "pin", .str "release"]) s1 (s1.free np2)
    walk_at "wk"
    refine Gv.go (.cat (.one (i := 8) fun H3 s3 Q2 k2 => ?_) (.call r (.ix rfl ((TupKeep.of s2).sqT hS) rfl ((SeqKeep.of s2).dp h2)) ho)) rfl hl s2 k
    walk_at "wp"
    exact .inr ⟨_, rfl, k2 _ (Same.refl _)⟩
  | receive p =>
    obtain ⟨a, x1, x2, rfl, hS, h1, h2⟩ := dT2 hd
    rw [dS] at h1
    subst h1
    walk_at "wk"
    refine ix_t hS rfl ?_
    walk_at "wk"
    refine ⟨by decide, fun p1 np1 => in_no [_, _, _] upd_same (by decide +kernel) ?_⟩
    have s1 := Same.new (o := .tup [.str "take", .str "turn", .str "collect"]) np1
    walk_at "wk"
    refine ⟨by decide, fun p2 np2 => in_no [_, _] upd_same (by decide +kernel) ?_⟩
    have s2 := Same.put (o := .tup [.str "pin", .str "release"]) s1 (s1.free np2)
    walk_at "wk"
    exact Gv.go (.cat (.one .c) (.call p (.ix rfl ((TupKeep.of s2).sqT hS) rfl ((SeqKeep.of s2).dp h2)) ho)) rfl hl s2 k
  | drop rs =>
    obtain ⟨a, x1, x2, rfl, hS, h1, h2⟩ := dT2 hd
    rw [dS] at h1
    subst h1
    walk_at "wk"
    refine ix_t hS rfl ?_
    walk_at "wk"
    refine ⟨by decide, fun p1 np1 => in_no [_, _, _] upd_same (by decide +kernel) ?_⟩
    have s1 := Same.new (o := .tup [.str "take", .str "turn", .str "collect"]) np1
    walk_at "wk"
    refine ⟨by decide, fun p2 np2 => in_no [_, _] upd_same (by decide +kernel) ?_⟩
    have s2 := Same.put (o := .tup [.str "pin", .str "release"]) s1 (s1.free np2)
    walk_at "wk"
    exact Gv.go (.cat (.one .c) (.row rs (.ix rfl ((TupKeep.of s2).sqT hS) rfl ((SeqKeep.of s2).dp h2)) ho.2 ho.1 (show 2 < 3 by decide))) rfl hl s2 k
theorem ok__law_written (T : Txt K mg) : OkF P w K mg base CX0 "_law_written" 9 ["entry"] (spW K DEn.d DEn.ok DEn.e) := by
  refine mkF T.d__law_written T.g__law_written sc__law_written bw__law_written (fun vs H Q E h => l1 h) (fun cdv A outer s H vs Q E hr h => ?_)
  obtain ⟨a, rfl, c, hd, ho, hl, k⟩ := h
  refine ⟨_, PSs.nox ((pss_cons (ps_set (i := 1) sc__law_written.nd rfl (by first | exact Or.inl rfl | exact Or.inr rfl) (fcall (ok__law_content T) (hr.mono (by decide)) pass0 (pa_cons (pv 0) pa_nil)))
    (pss_one (ps_ret (pe_op op_cat (fcall (ok__law_count T) (hr.mono (by decide)) pass0 (pa_cons (pe_callB call_len_seq (by rfl) T.n_len PySem.boot_len (pa_cons (pv 1) pa_nil)) pa_nil)) (pv 1)))))), ?_⟩
  have hl2 := hl
  simp only [DEn.e, List.length_append] at hl2
  walk_at "wk"
  refine Gv.go (Gv.call c (.var rfl hd) ho) rfl (by omega) (Same.refl H) fun p H1 s1 np1 e1 => ?_
  refine Gv.go (.vcat (.call (c.k :: c.c).length (.i fun H2 s2 Q2 k2 => ?_) (cok (by omega))) rfl e1) rfl hl s1 k
  walk_at "wp"
  refine ⟨p, _, rfl, .inl (.of (s2 _ _ e1)), ?_⟩
  rw [vlen]
  exact k2 _ (Same.refl _)
end
end Kt
set_option Elab.async false
set_option linter.all false
set_option maxRecDepth 100000
set_option maxHeartbeats 4000000
namespace Kt
open PySem PySem.Spec PyProof.Rows L2 Vl
local macro_rules | `(tactic| walk_at "wp") => `(tactic| simp only [L2.start, cxK, a_seq, a_next, a_asg, a_ret, a_retN, a_drop, a_ifS, a_break, a_cont, a_c, a_op, a_un, a_nil, a_cons, a_tup, a_lst, a_call, a_meth, a_make, a_cb, a_bm0, a_m1, a_bm, a_fld, a_sfld, a_sfldAug, a_aug, a_test, a_tB, a_and, a_or, a_not, a_if, a_sl, a_noPart, a_part,
  a_for, a_iTup, a_iList, a_iStr, a_iRng1, a_iRng2, rng1, rng2, a_lc, a_yes, a_gTup, a_gCons, a_gNil, a_gSub, wipe, List.set_cons_zero, List.set_cons_succ,
  v0, v1, v2, v3, v4, v5, v6, v7, v8, v9, v10, n0, n1, n2, n3, n4, n5, n6, n7, n8, n9, n10, i_0, i_c, i_u, e_i, e_s, e_b, e_n, ne_i, ne_s, ne_b, tst, tsi, tss, tsr, Vl.s0, Vl.s1, Vl.s2, Vl.s3, Vl.s4, Vl.s5, List.map_cons, List.map_nil, List.length_cons, List.length_nil, List.replicate, List.cons_append, List.nil_append, Nat.reduceAdd, Nat.reduceSub, decide_eq_true_eq, ofS, String.reduceEq, decide_true, decide_false, Bool.false_eq_true, Bool.not_true, Bool.not_false, if_true, if_false])
local macro_rules | `(tactic| walk_at "wk") => `(tactic| simp only [L2.start, cxK, a_seq, a_next, a_asg, a_ret, a_retN, a_drop, a_ifS, a_break, a_cont, a_c, q_eq, q_ne, q_in, q_ix, q_i0, q_iC, a_un, a_nil, a_cons, a_tup, a_meth, a_make, a_cb, a_bm0, a_m1, a_bm, a_fld, a_sfld, a_sfldAug, a_aug, a_test, a_tB, a_and, a_or, a_not, a_if, a_sl, a_noPart, a_part,
  a_for, a_iTup, a_iList, a_iStr, a_iRng1, a_iRng2, rng1, rng2, a_lc, a_yes, a_gTup, a_gCons, a_gNil, a_gSub, wipe, List.set_cons_zero, List.set_cons_succ,
  v0, v1, v2, v3, v4, v5, v6, v7, v8, v9, v10, n0, n1, n2, n3, n4, n5, n6, n7, n8, n9, n10, i_0, i_c, i_u, e_i, e_s, e_b, e_n, ne_i, ne_s, ne_b, tst, tsi, tss, tsr, Vl.s0, Vl.s1, Vl.s2, Vl.s3, Vl.s4, Vl.s5, List.map_cons, List.map_nil, List.length_cons, List.length_nil, List.replicate, List.cons_append, List.nil_append, Nat.reduceAdd, Nat.reduceSub, decide_eq_true_eq, ofS, String.reduceEq, decide_true, decide_false, Bool.false_eq_true, Bool.not_true, Bool.not_false, if_true, if_false])
section
variable {P : Program} {w : World} {K : PySem.W.Frag} {mg : Str → Option Value} {base : Heap}
theorem ok_Reading___init__ (T : Txt K mg) : OkC P w K mg base CX0 (He.ga K "Reading") "Reading" 1 ["self", "numbers"] (Sp2 fun a b H Q _ => ∃ r lp dx L, a = .ref r ∧ b = .ref lp ∧ H r = some (.ins (RC K) dx []) ∧ H lp = some (.lst (vints L)) ∧ L.length ≤ 10000000 ∧ ∀ H', (∀ b, b ≠ r → H' b = H b) → Rs K r lp L L H' → Q .non H') := by
  refine mkC T.d_Reading___init__ T.g_Reading T.mk_Reading sc_Reading___init__ bw_Reading___init__ (fun vs H Q E h => l2 h) (fun cdv A outer s H vs Q E hr h => ?_)
  obtain ⟨_, _, rfl, r, lp, dx, L, rfl, rfl, hr1, hlp, hL, k⟩ := h
  refine ⟨_, PSs.nox ((pss_cons (ps_fld (pv 0) (pv 1) rfl)
    (pss_one (ps_fld (pv 0) pe_int rfl)))), ?_⟩
  walk_at "wp"
  have ne : lp ≠ r := fun e => by
    rw [e, hr1] at hlp
    cases hlp
  refine ⟨r, _, dx, _, rfl, hr1, T.cl_Reading, T.na_Reading_numbers, Nat.lt_of_le_of_lt (Nat.zero_le 0) (by decide), r, _, dx, _, rfl, upd_same, T.cl_Reading, T.na_Reading_at, Nat.lt_of_le_of_lt (Nat.le_refl 1) (by decide), k _ (fun b hb => by rw [upd_ne hb, upd_ne hb]) ⟨⟨[], rfl⟩, ⟨dx, ?_⟩, ?_, hL⟩⟩
  · rw [upd_same, Nat.sub_self, rdF_new]
  · rw [upd_ne ne, upd_ne ne]
    exact hlp
theorem ok_Reading_digits (T : Txt K mg) : OkM P w K mg base CX0 (He.ga K "Reading") "digits" 1 ["self", "most"] (spDg K) := by
  refine mkM T.d_Reading_digits T.cl_Reading T.m_Reading_digits sc_Reading_digits bw_Reading_digits (fun vs H Q E h => l2 h) (fun cdv A outer s H vs Q E hr h => ?_)
  obtain ⟨_, _, rfl, r, lp, L, t, n, most, rfl, rfl, R, hm, hb, k⟩ := h
  refine ⟨_, PSs.nox ((pss_cons (ps_set (i := 2) sc_Reading_digits.nd rfl (by first | exact Or.inl rfl | exact Or.inr rfl) pe_int)
    (pss_cons (ps_set (i := 3) sc_Reading_digits.nd rfl (by first | exact Or.inl rfl | exact Or.inr rfl) pe_int)
    (pss_cons (ps_for PassesOwn.never rfl (pi_range1 (by rfl) T.n_range (pa_cons (pe_op op_add (pv 1) pe_int) pa_nil)) (pg_name (i := 4) sc_Reading_digits.nd rfl (by first | exact Or.inl rfl | exact Or.inr rfl))
      (pss_cons (ps_if (pt_cmpR op_ge (pe_fld (pv 0) rfl) (pe_callB call_len_seq (by rfl) T.n_len PySem.boot_len (pa_cons (pe_fld (pv 0) rfl) pa_nil)) (nomark _))
      (pss_one ps_never)
      pss_nil)
    (pss_cons (ps_set (i := 5) sc_Reading_digits.nd rfl (by first | exact Or.inl rfl | exact Or.inr rfl) (pe_ix ix_list (pe_fld (pv 0) rfl) (pe_fld (pv 0) rfl) (fun _ _ => rfl)))
    (pss_cons (ps_if (PW.pt (pw_or (pt_cmpR op_eq (pv 4) (pv 1) (nomark _)) (pw_or (pt_cmpR op_lt (pv 5) pe_int (nomark _)) (pw_or (pt_cmpR op_gt (pv 5) pe_int (nomark _)) (pw_or1 (PW.pt (pw_and (pt_cmpR op_eq (pv 5) pe_int (nomark _)) (pw_and1 (pt_cmpR op_gt (pv 4) pe_int (nomark _))))))))))
      (pss_one ps_never)
      pss_nil)
    (pss_cons (ps_fldaug (pv 0) pe_int in_add)
    (pss_cons (ps_if (pt_cmpR op_lt (pv 5) pe_int (nomark _))
      (pss_one (ps_ret (pe_op op_add (pv 2) (pe_op op_mul (pv 3) (pv 5)))))
      pss_nil)
    (pss_cons (ps_aug (i := 2) sc_Reading_digits.nd rfl (by first | exact Or.inl rfl | exact Or.inr rfl) (pe_op op_mul (pv 3) (pe_op op_sub (pv 5) pe_int)) ip_add)
    (pss_one (ps_set (i := 3) sc_Reading_digits.nd rfl (by first | exact Or.inl rfl | exact Or.inr rfl) (pe_op op_mul (pv 3) pe_int))))))))))
    (pss_one (ps_ret (pv 2))))))), ?_⟩
  walk_at "wp"
  refine ⟨_, rfl, Int.le_trans (by decide : -(2 ^ 62 : Int) ≤ 0) (by omega), Int.lt_of_le_of_lt (by omega : (most : Int) + 1 ≤ 20000) (by decide), ?_⟩
  refine forN (fun i σ H2 => ∃ m, ∃ tot unit : Int, ∃ y4 y5, σ = [some (.ref r), some (.int (most : Nat)), some (.int tot), some (.int unit), y4, y5] ∧ Rs K r lp L (cntd m ++ t) H2 ∧ Off (· = r) H H2 ∧ tot + unit * (m : Int) = n ∧ i + (cntd m).length = (cntd n).length ∧ (0 < i → 0 < m)) ⟨n, 0, 1, none, none, rfl, R, .refl, by omega, by omega, fun h => absurd h (by decide)⟩ ?_ ?_
  · rintro i σ H2 hi ⟨m, tot, unit, y4, y5, rfl, R2, o2, hn, hl, hp⟩
    have hc := cnt_pos m
    have him : i < most := by omega
    have hde : ¬ ((0 : Int) + (i : Int) = (most : Int)) := by omega
    have hat : ¬ (((L.length : Nat) : Int) ≤ ((L.length - (cntd m ++ t).length : Nat) : Int)) := by
      obtain ⟨d, u, hu⟩ : ∃ d u, cntd m = d :: u := by
        cases hq : cntd m with
        | nil =>
          rw [hq] at hc
          exact absurd hc (by decide)
        | cons d u => exact ⟨d, u, rfl⟩
      rw [hu, List.cons_append] at R2 ⊢
      have := R2.lt
      omega
    by_cases c : m < 128
    · rw [cnt_small c] at R2 hat hl
      walk_at "wp"
      obtain ⟨dx, hx⟩ := R2.2.1
      refine ⟨r, _, dx, _, _, rfl, hx, T.cl_Reading, T.na_Reading_at, rdF_at, r, _, dx, _, _, rfl, hx, T.cl_Reading, T.na_Reading_numbers, rdF_num, lp, _, rfl, .inl (.of R2.2.2.1), ?_⟩
      rw [vlen]
      walk_at "wp"
      rw [if_neg (by simpa using hat)]
      refine ⟨r, _, dx, _, _, rfl, hx, T.cl_Reading, T.na_Reading_numbers, rdF_num, r, _, dx, _, _, rfl, hx, T.cl_Reading, T.na_Reading_at, rdF_at, ?_⟩
      refine ix_l (.of R2.2.2.1) R2.at_ ?_
      walk_at "wp"
      rw [if_neg hde, if_neg (by omega), if_neg (by omega)]
      obtain ⟨R3, o3⟩ := R2.stp hx
      have hk := k _ (o2.trans o3) R3
      have key := fun (P : Prop) (q : P) => q
      split
      · rename_i hm0
        rw [if_neg (by omega)]
        refine ⟨r, _, dx, _, _, rfl, hx, T.cl_Reading, T.na_Reading_at, rdF_at, _, _, rfl, rfl, dx, _, hx, Nat.lt_of_le_of_lt (Nat.le_refl 2) (by decide), ?_⟩
        rw [if_pos (by omega), hn]
        exact ⟨.inr (by omega), hk⟩
      · refine ⟨r, _, dx, _, _, rfl, hx, T.cl_Reading, T.na_Reading_at, rdF_at, _, _, rfl, rfl, dx, _, hx, Nat.lt_of_le_of_lt (Nat.le_refl 2) (by decide), ?_⟩
        rw [if_pos (by omega), hn]
        exact ⟨.inr (by omega), hk⟩
    · rw [cnt_big (n := m) (by omega)] at R2 hat hl
      have hlt := Nat.mod_lt m (show 128 > 0 by decide)
      walk_at "wp"
      obtain ⟨dx, hx⟩ := R2.2.1
      refine ⟨r, _, dx, _, _, rfl, hx, T.cl_Reading, T.na_Reading_at, rdF_at, r, _, dx, _, _, rfl, hx, T.cl_Reading, T.na_Reading_numbers, rdF_num, lp, _, rfl, .inl (.of R2.2.2.1), ?_⟩
      rw [vlen]
      walk_at "wp"
      rw [if_neg (by simpa using hat)]
      refine ⟨r, _, dx, _, _, rfl, hx, T.cl_Reading, T.na_Reading_numbers, rdF_num, r, _, dx, _, _, rfl, hx, T.cl_Reading, T.na_Reading_at, rdF_at, ?_⟩
      refine ix_l (.of R2.2.2.1) R2.at_ ?_
      walk_at "wp"
      rw [if_neg hde, if_neg (by omega), if_neg (by omega), if_neg (by omega)]
      obtain ⟨R3, o3⟩ := R2.stp hx
      refine ⟨r, _, dx, _, _, rfl, hx, T.cl_Reading, T.na_Reading_at, rdF_at, _, _, rfl, rfl, dx, _, hx, Nat.lt_of_le_of_lt (Nat.le_refl 2) (by decide), ?_⟩
      rw [if_neg (by omega)]
      refine ⟨_, rfl, .inr (by omega), _, _, rfl, rfl, .inr (by decide), m / 128, _, _, _, _, rfl, R3, o2.trans o3, ?_, ?_, fun _ => by omega⟩
      · have e1 : (128 + ((m % 128 : Nat) : Int) - 128) = ((m % 128 : Nat) : Int) := by omega
        have e2 : (m : Int) = 128 * ((m / 128 : Nat) : Int) + ((m % 128 : Nat) : Int) := by omega
        rw [e1, ← hn]
        rw [e2]
        rw [Int.mul_add, Int.mul_assoc]
        show tot + unit * ((m % 128 : Nat) : Int) + unit * (128 * ((m / 128 : Nat) : Int)) = _
        rw [Int.add_assoc, Int.add_comm (unit * ((m % 128 : Nat) : Int))]
      · rw [List.length_cons] at hl
        omega
  · rintro σ H2 ⟨m, tot, unit, y4, y5, rfl, R2, o2, hn, hl, hp⟩
    have hc := cnt_pos m
    exact absurd hl (by
      have : ((most : Int) + 1).toNat = most + 1 := by omega
      omega)
end
end Kt
set_option Elab.async false
set_option linter.all false
set_option maxRecDepth 100000
set_option maxHeartbeats 4000000
namespace Kt
open PySem PySem.Spec PyProof.Rows L2 Vl
local macro_rules | `(tactic| walk_at "wp") => `(tactic| simp only [L2.start, cxK, a_seq, a_next, a_asg, a_ret, a_retN, a_drop, a_ifS, a_break, a_cont, a_c, a_op, a_un, a_nil, a_cons, a_tup, a_lst, a_call, a_meth, a_make, a_cb, a_bm0, a_m1, a_bm, a_fld, a_sfld, a_sfldAug, a_aug, a_test, a_tB, a_and, a_or, a_not, a_if, a_sl, a_noPart, a_part,
  a_for, a_iTup, a_iList, a_iStr, a_iRng1, a_iRng2, rng1, rng2, a_lc, a_yes, a_gTup, a_gCons, a_gNil, a_gSub, wipe, List.set_cons_zero, List.set_cons_succ,
  v0, v1, v2, v3, v4, v5, v6, v7, v8, v9, v10, n0, n1, n2, n3, n4, n5, n6, n7, n8, n9, n10, i_0, i_c, i_u, e_i, e_s, e_b, e_n, ne_i, ne_s, ne_b, tst, tsi, tss, tsr, Vl.s0, Vl.s1, Vl.s2, Vl.s3, Vl.s4, Vl.s5, List.map_cons, List.map_nil, List.length_cons, List.length_nil, List.replicate, List.cons_append, List.nil_append, Nat.reduceAdd, Nat.reduceSub, decide_eq_true_eq, ofS, String.reduceEq, decide_true, decide_false, Bool.false_eq_true, Bool.not_true, Bool.not_false, if_true, if_false])
local macro_rules | `(tactic| walk_at "wk") => `(tactic| simp only [L2.start, cxK, a_seq, a_next, a_asg, a_ret, a_retN, a_drop, a_ifS, a_break, a_cont, a_c, q_eq, q_ne, q_in, q_ix, q_i0, q_iC, a_un, a_nil, a_cons, a_tup, a_meth, a_make, a_cb, a_bm0, a_m1, a_bm, a_fld, a_sfld, a_sfldAug, a_aug, a_test, a_tB, a_and, a_or, a_not, a_if, a_sl, a_noPart, a_part,
  a_for, a_iTup, a_iList, a_iStr, a_iRng1, a_iRng2, rng1, rng2, a_lc, a_yes, a_gTup, a_gCons, a_gNil, a_gSub, wipe, List.set_cons_zero, List.set_cons_succ,
  v0, v1, v2, v3, v4, v5, v6, v7, v8, v9, v10, n0, n1, n2, n3, n4, n5, n6, n7, n8, n9, n10, i_0, i_c, i_u, e_i, e_s, e_b, e_n, ne_i, ne_s, ne_b, tst, tsi, tss, tsr, Vl.s0, Vl.s1, Vl.s2, Vl.s3, Vl.s4, Vl.s5, List.map_cons, List.map_nil, List.length_cons, List.length_nil, List.replicate, List.cons_append, List.nil_append, Nat.reduceAdd, Nat.reduceSub, decide_eq_true_eq, ofS, String.reduceEq, decide_true, decide_false, Bool.false_eq_true, Bool.not_true, Bool.not_false, if_true, if_false])
section
variable {P : Program} {w : World} {K : PySem.W.Frag} {mg : Str → Option Value} {base : Heap}
theorem ok_Reading_count (T : Txt K mg) : OkM P w K mg base CX0 (He.ga K "Reading") "count" 2 ["self", "least", "most"] (spCt K) := by
  refine mkM T.d_Reading_count T.cl_Reading T.m_Reading_count sc_Reading_count bw_Reading_count (fun vs H Q E h => l3 h) (fun cdv A outer s H vs Q E hr h => ?_)
  obtain ⟨_, _, _, rfl, r, lp, L, t, n, lo, hi, rfl, rfl, rfl, R, h1, h2, h3, k⟩ := h
  refine ⟨_, PSs.nox ((pss_cons (ps_set (i := 3) sc_Reading_count.nd rfl (by first | exact Or.inl rfl | exact Or.inr rfl) (mcall (ok_Reading_digits T) (hr.mono (by decide)) pass0 (pv 0) (pa_cons (pgI T.c_COUNT_DIGITS) pa_nil)))
    (pss_cons (ps_if (PW.pt (pw_or (pt_cmpR op_lt (pv 3) (pv 1) (nomark _)) (pw_or1 (pt_cmpR op_gt (pv 3) (pv 2) (nomark _)))))
      (pss_one ps_never)
      pss_nil)
    (pss_one (ps_ret (pv 3)))))), ?_⟩
  walk_at "wp"
  refine R.m ⟨_, _, rfl, r, lp, L, t, n, 5, rfl, rfl, R, cnt5 h3, by decide, fun H1 o1 R1 => ?_⟩
  walk_at "wp"
  rw [if_neg (by omega), if_neg (by omega)]
  exact k _ o1 R1
theorem ok_Reading_big (T : Txt K mg) : OkM P w K mg base CX0 (He.ga K "Reading") "big" 2 ["self"] (spR K pN Cok cntd) := by
  refine mkM T.d_Reading_big T.cl_Reading T.m_Reading_big sc_Reading_big bw_Reading_big (fun vs H Q E h => l1 h) (fun cdv A outer s H vs Q E hr h => ?_)
  obtain ⟨_, rfl, r, lp, L, t, n, rfl, R, hc, k⟩ := h
  refine ⟨_, PSs.nox ((pss_one (ps_ret (mcall (ok_Reading_digits T) (hr.mono (by decide)) pass0 (pv 0) (pa_cons (pgI T.c_BIG_DIGITS) pa_nil))))), ?_⟩
  walk_at "wp"
  exact R.m ⟨_, _, rfl, r, lp, L, t, n, 2000, rfl, rfl, R, hc, by decide, fun H1 o1 R1 => k _ _ o1 R1 (.int _)⟩
theorem ok_Reading_text (T : Txt K mg) : OkM P w K mg base CX0 (He.ga K "Reading") "text" 3 ["self", "most"] (spR2 K pS (fun m ks => Tx ks ∧ (ks.length : Int) ≤ m ∧ ks.length ≤ 1000000) eS) := by
  refine mkM T.d_Reading_text T.cl_Reading T.m_Reading_text sc_Reading_text bw_Reading_text (fun vs H Q E h => l2 h) (fun cdv A outer s H vs Q E hr h => ?_)
  obtain ⟨_, _, rfl, r, lp, L, t, ks, m, rfl, rfl, R, ⟨o1, o2, o3⟩, k⟩ := h
  refine ⟨_, PSs.nox ((pss_cons (ps_set (i := 2) sc_Reading_text.nd rfl (by first | exact Or.inl rfl | exact Or.inr rfl) (mcall (ok_Reading_count T) (hr.mono (by decide)) pass0 (pv 0) (pa_cons pe_int (pa_cons (pv 1) pa_nil))))
    (pss_one (ps_ret (pe_join pe_str (pe_lc (own := [("_", 3)]) (g := gName 3) (tt := tYes) rfl sc_Reading_text.nd (pi_range1 (by rfl) T.n_range (pa_cons (pv 2) pa_nil)) (blkOk_by (N := ["self", "most", "size", "_"]) (sc := defScope s_Reading_text) (by decide +kernel)) (fun _ _ _ _ _ => pg_name (i := 3) sc_Reading_text.nd rfl (Or.inl rfl)) (fun _ _ _ _ _ => pts_nil) (fun _ _ _ _ _ => (pe_ix ix_str (pgS T.c_CHARACTERS) (mcall (ok_Reading_count T) (hr.mono (by decide)) pass0 (pv 0) (pa_cons pe_int (pa_cons (pe_op op_sub (pe_callB call_len_str (by rfl) T.n_len PySem.boot_len (pa_cons (pgS T.c_CHARACTERS) pa_nil)) pe_int) pa_nil))) (fun _ _ => rfl))))))))), ?_⟩
  walk_at "wp"
  refine R.m ?_
  rw [eS, List.append_assoc] at R
  have e1 : ks.map nat = ks.flatMap cntd := by
    clear R k o2 o3
    induction ks with
    | nil => rfl
    | cons x ks ih =>
      rw [List.map_cons, List.flatMap_cons, ih fun k hk => o1 k (List.mem_cons_of_mem _ hk), cnt_small (Nat.lt_trans (o1 x List.mem_cons_self) (by decide))]
      rfl
  rw [e1] at R
  refine ctcall ks.length R (by omega) o2 (by omega) fun H1 f1 R1 => ?_
  refine ⟨⟨_, rfl⟩, _, rfl, Int.le_trans (by decide : -(2 ^ 62 : Int) ≤ 0) (by omega), Int.lt_of_le_of_lt (by omega : (ks.length : Int) ≤ 20000000) (by decide), ?_⟩
  refine lcR (D := fun k => .str ⟨#[sgAt k]⟩) ks R1 o3 (fun _ => rfl) (by omega) (fun N H2 x u i hx f2 R2 kN => ?_) fun D H2 ys n f2 R2 hD hA => ?_
  · walk_at "wp"
    refine ⟨trivial, R2.m ⟨charsS, rfl, by rw [chars_len]; decide, ?_⟩⟩
    have hx2 := o1 x hx
    rw [chars_len]
    exact ctcall x R2 (by omega) (by omega) (by omega) fun H3 f3 R3 => ixc hx2 (kN _ _ f3 R3 (.str _))
  · refine ⟨_, D, ks.map fun k => ⟨#[sgAt k]⟩, rfl, rfl, .inl (sqL_signs hD hA), ?_, ?_⟩
    · rw [strs_len, List.length_map]
      show _ + _ * 0 ≤ _
      omega
    · rw [joinT]
      exact k _ _ (f1.trans f2) R2 (.str _)
theorem ok_Reading_weight (T : Txt K mg) : OkM P w K mg base CX0 (He.ga K "Reading") "weight" 3 ["self"] (spR K DWt.d DWt.ok DWt.en) := by
  refine mkM T.d_Reading_weight T.cl_Reading T.m_Reading_weight sc_Reading_weight bw_Reading_weight (fun vs H Q E h => l1 h) (fun cdv A outer s H vs Q E hr h => ?_)
  obtain ⟨_, rfl, r, lp, L, t, x, rfl, R, ho, k⟩ := h
  refine ⟨_, PSs.nox ((pss_cons (ps_set (i := 1) sc_Reading_weight.nd rfl (by first | exact Or.inl rfl | exact Or.inr rfl) (mcall0 (ok_Reading_big T) (hr.mono (by decide)) pass0 (pv 0)))
    (pss_cons (ps_set (i := 2) sc_Reading_weight.nd rfl (by first | exact Or.inl rfl | exact Or.inr rfl) (mcall (ok_Reading_count T) (hr.mono (by decide)) pass0 (pv 0) (pa_cons pe_int (pa_cons (pgI T.c_EXPONENT_MOST) pa_nil))))
    (pss_cons (ps_if (PW.pt (pw_or (pt_cmpR op_eq (pv 1) pe_int (nomark _)) (pw_or1 (PW.pt (pw_and (pt_cmpR op_gt (pv 2) pe_int (nomark _)) (pw_and1 (pt_cmpR op_eq (pe_op op_mod (pv 1) pe_int) pe_int (nomark _))))))))
      (pss_one ps_never)
      pss_nil)
    (pss_one (ps_ret (pe_tup (pa_cons (pv 1) (pa_cons (pv 2) pa_nil))))))))), ?_⟩
  walk_at "wp"
  refine R.m ?_
  rw [DWt.en, List.append_assoc] at R
  obtain ⟨o1, o2, o3, o4⟩ := ho
  refine rcall x.m R o2 fun v H1 f1 R1 d1 => ?_
  rw [pN, dI] at d1
  subst d1
  refine R1.m ?_
  refine ctcall x.e R1 (by omega) (by omega) (by omega) fun H2 f2 R2 => ?_
  walk_at "wp"
  have fin : ∀ p, H2 p = none → Q (V.ref p) (upd H2 p (HO.tup [V.int (x.m : Nat), V.int (x.e : Nat)])) := fun p np =>
    k _ _ ((f1.trans f2).new np) (R2.new np) (dp_tup np (.cons (.int _) (.cons (.int _) .nil)))
  rw [if_neg (by omega)]
  split
  · rw [if_neg (by omega)]
    exact ⟨by decide, by decide, fin⟩
  · exact ⟨by decide, fin⟩
theorem ok_Reading_reference (T : Txt K mg) : OkM P w K mg base CX0 (He.ga K "Reading") "reference" 3 ["self"] (spR K DRef.d DRef.ok DRef.e) := by
  refine mkM T.d_Reading_reference T.cl_Reading T.m_Reading_reference sc_Reading_reference bw_Reading_reference (fun vs H Q E h => l1 h) (fun cdv A outer s H vs Q E hr h => ?_)
  obtain ⟨_, rfl, r, lp, L, t, x, rfl, R, ho, k⟩ := h
  refine ⟨_, PSs.nox ((pss_cons (ps_set (i := 1) sc_Reading_reference.nd rfl (by first | exact Or.inl rfl | exact Or.inr rfl) (pe_ix ix_tup (pgR T.c_KINDS_coding) (mcall (ok_Reading_count T) (hr.mono (by decide)) pass0 (pv 0) (pa_cons pe_int (pa_cons pe_int pa_nil))) (fun _ _ => rfl)))
    (pss_cons (ps_set (i := 2) sc_Reading_reference.nd rfl (by first | exact Or.inl rfl | exact Or.inr rfl) (mcall (ok_Reading_count T) (hr.mono (by decide)) pass0 (pv 0) (pa_cons pe_int (pa_cons (pgI T.c_VAT_MOST) pa_nil))))
    (pss_one (ps_ret (pe_tup (pa_cons (pv 1) (pa_cons (pv 2) (pa_cons (mcall (ok_Reading_count T) (hr.mono (by decide)) pass0 (pv 0) (pa_cons pe_int (pa_cons (pgI T.c_NUMBER_MOST) pa_nil))) pa_nil))))))))), ?_⟩
  walk_at "wp"
  refine R.m ?_
  have hT := sqT_strs (ys := ["object", "promise"]) (T.t_KINDS_coding H)
  rw [DRef.e, List.cons_append, List.append_assoc] at R
  have R' : Rs K r lp L (cntd (if x.p then 1 else 0) ++ (cntd x.v ++ (cntd x.n ++ t))) H := by
    rw [cnt_small (by split <;> decide)]
    cases hp : x.p <;> (rw [hp] at R; exact R)
  obtain ⟨o1, o2, o3, o4⟩ := ho
  refine ctcall _ R' (by omega) (by split <;> decide) (by split <;> decide) fun H1 f1 R1 => ?_
  refine ix_t ((Off.tup R' f1).sqT hT) (u := .str (if x.p then "promise" else "object")) (by cases x.p <;> rfl) ?_
  refine R1.m ?_
  refine ctcall x.v R1 (by omega) (by omega) (by omega) fun H2 f2 R2 => ?_
  refine R2.m ?_
  refine ctcall x.n R2 (by omega) (by omega) (by omega) fun H3 f3 R3 => ?_
  refine ⟨by decide, fun p np => k _ _ (((f1.trans f2).trans f3).new np) (R3.new np) (dp_tup np ?_)⟩
  exact .cons (.str _) (.cons (.int _) (.cons (.int _) .nil))
theorem ok_Reading_atom (T : Txt K mg) : OkM P w K mg base CX0 (He.ga K "Reading") "atom" 4 ["self"] (spR K DAt.d DAt.ok DAt.e) := by
  refine mkM T.d_Reading_atom T.cl_Reading T.m_Reading_atom sc_Reading_atom bw_Reading_atom (fun vs H Q E h => l1 h) (fun cdv A outer s H vs Q E hr h => ?_)
  obtain ⟨_, rfl, r, lp, L, t, x, rfl, R, ho, k⟩ := h
  refine ⟨_, PSs.nox ((pss_cons (ps_set (i := 1) sc_Reading_atom.nd rfl (by first | exact Or.inl rfl | exact Or.inr rfl) (mcall (ok_Reading_count T) (hr.mono (by decide)) pass0 (pv 0) (pa_cons pe_int (pa_cons pe_int pa_nil))))
    (pss_cons (ps_if (pt_cmpR op_lt (pv 1) pe_int (nomark _))
      (pss_one (ps_ret (pe_ix ix_tup (pgR T.c_PLAIN_ATOMS) (pv 1) (fun _ _ => rfl))))
      pss_nil)
    (pss_cons (ps_if (pt_cmpR op_eq (pv 1) pe_int (nomark _))
      (pss_cons (ps_set (i := 2) sc_Reading_atom.nd rfl (by first | exact Or.inl rfl | exact Or.inr rfl) (mcall (ok_Reading_count T) (hr.mono (by decide)) pass0 (pv 0) (pa_cons pe_int (pa_cons (pe_op op_mul pe_int (pgI T.c_NUMBER_MOST)) pa_nil))))
    (pss_one (ps_ret (pe_tup (pa_cons pe_str (pa_cons (pe_ifExp (pt_cmpR op_eq (pe_op op_mod (pv 2) pe_int) pe_int (nomark _)) (pe_op op_fdiv (pv 2) pe_int) (pe_op op_sub pe_int (pe_op op_fdiv (pe_op op_add (pv 2) pe_int) pe_int))) pa_nil))))))
      pss_nil)
    (pss_cons (ps_if (pt_cmpR op_eq (pv 1) pe_int (nomark _))
      (pss_one (ps_ret (pe_tup (pa_cons pe_str (pa_cons (mcall (ok_Reading_text T) (hr.mono (by decide)) pass0 (pv 0) (pa_cons (pgI T.c_TEXT_MOST) pa_nil)) pa_nil)))))
      pss_nil)
    (pss_one (ps_ret (mcall0 (ok_Reading_reference T) (hr.mono (by decide)) pass0 (pv 0))))))))), ?_⟩
  walk_at "wp"
  refine R.m ?_
  cases x with
  | non =>
    refine ctcall 0 (t := t) (by rw [cnt_small (by decide)]; exact R) (by omega) (by omega) (by omega) fun H1 f1 R1 => ?_
    walk_at "wp"
    have hT := (Off.tup R f1).dp (d := .tuple [.tuple [.str "none"], .tuple [.str "bool", .bool false], .tuple [.str "bool", .bool true]]) rfl (T.t_PLAIN_ATOMS H)
    obtain ⟨b, x1, x2, x3, e, hS, d1, d2, d3⟩ := dT3 hT
    cases e
    rw [if_pos (by decide)]
    exact ix_t hS rfl (k _ _ f1 R1 d1)
  | bl b =>
    have R' : Rs K r lp L (cntd (if b then 2 else 1) ++ t) H := by
      rw [cnt_small (by split <;> decide)]
      cases b <;> exact R
    refine ctcall (if b then 2 else 1) R' (by omega) (by split <;> decide) (by split <;> decide) fun H1 f1 R1 => ?_
    have hT := (Off.tup R f1).dp (d := .tuple [.tuple [.str "none"], .tuple [.str "bool", .bool false], .tuple [.str "bool", .bool true]]) rfl (T.t_PLAIN_ATOMS H)
    obtain ⟨a, x1, x2, x3, e, hS, d1, d2, d3⟩ := dT3 hT
    cases e
    walk_at "wp"
    cases b
    · rw [if_pos (by decide)]
      exact ix_t hS rfl (k _ _ f1 R1 d2)
    · rw [if_pos (by decide)]
      exact ix_t hS rfl (k _ _ f1 R1 d3)
  | int i =>
    have R' : Rs K r lp L (cntd 3 ++ (cntd (zig i) ++ t)) H := by
      rw [cnt_small (by decide)]
      exact R
    have hz : zig i ≤ 2000000000 := by
      obtain ⟨o1, o2⟩ := ho
      unfold zig
      split <;> omega
    refine ctcall 3 R' (by omega) (by omega) (by omega) fun H1 f1 R1 => ?_
    walk_at "wp"
    refine R1.m ⟨.inl (by decide), ctcall (zig i) R1 (by omega) (by omega) (by omega) fun H2 f2 R2 => ?_⟩
    have fin : ∀ j, j = i → ∀ p, H2 p = none → Q (V.ref p) (upd H2 p (HO.tup [V.str "int", V.int j])) := fun j e p np => by
      subst e
      exact k _ _ ((f1.trans f2).new np) (R2.new np) (dp_tup np (.cons (.str _) (.cons (.int _) .nil)))
    walk_at "wp"
    refine ⟨by decide, ?_⟩
    by_cases h0 : 0 ≤ i
    · have hz1 : (zig i : Int) = 2 * i := by
        unfold zig
        rw [if_pos h0]
        omega
      rw [if_pos (by omega)]
      exact ⟨⟨by decide, by decide⟩, by decide, fin _ (by omega)⟩
    · have hz1 : (zig i : Int) = -2 * i - 1 := by
        unfold zig
        rw [if_neg h0]
        omega
      rw [if_neg (by omega)]
      exact ⟨⟨by decide, by decide⟩, by decide, fin _ (by omega)⟩
  | txt ks =>
    have R' : Rs K r lp L (cntd 4 ++ (eS ks ++ t)) H := by
      rw [cnt_small (by decide)]
      exact R
    refine ctcall 4 R' (by omega) (by omega) (by omega) fun H1 f1 R1 => ?_
    walk_at "wp"
    obtain ⟨o1, o2⟩ := ho
    refine R1.m (rcall2 ks R1 ⟨o1, by omega, by omega⟩ fun v H2 f2 R2 d2 => ?_)
    exact ⟨by decide, fun p np => k _ _ ((f1.trans f2).new np) (R2.new np) (dp_tup np (.cons (.str _) (.cons d2 .nil)))⟩
  | ref x =>
    have R' : Rs K r lp L (cntd 5 ++ (x.e ++ t)) H := by
      rw [cnt_small (by decide)]
      exact R
    refine ctcall 5 R' (by omega) (by omega) (by omega) fun H1 f1 R1 => ?_
    walk_at "wp"
    exact R1.m (rcall x R1 ho fun v H2 f2 R2 d2 => k _ _ (f1.trans f2) R2 d2)
theorem ok_Reading_value (T : Txt K mg) : OkM P w K mg base CX0 (He.ga K "Reading") "value" 5 ["self"] (spR K DVa.d DVa.ok DVa.e) := by
  refine mkM T.d_Reading_value T.cl_Reading T.m_Reading_value sc_Reading_value bw_Reading_value (fun vs H Q E h => l1 h) (fun cdv A outer s H vs Q E hr h => ?_)
  obtain ⟨_, rfl, r, lp, L, t, x, rfl, R, ho, k⟩ := h
  refine ⟨_, PSs.nox ((pss_cons (ps_if (pt_cmpR op_eq (mcall (ok_Reading_count T) (hr.mono (by decide)) pass0 (pv 0) (pa_cons pe_int (pa_cons pe_int pa_nil))) pe_int (nomark _))
      (pss_one (ps_ret (mcall0 (ok_Reading_atom T) (hr.mono (by decide)) pass0 (pv 0))))
      pss_nil)
    (pss_cons (ps_set (i := 1) sc_Reading_value.nd rfl (by first | exact Or.inl rfl | exact Or.inr rfl) (mcall (ok_Reading_count T) (hr.mono (by decide)) pass0 (pv 0) (pa_cons pe_int (pa_cons (pgI T.c_LIST_MOST) pa_nil))))
    (pss_one (ps_ret (pe_tup (pa_cons pe_str (pa_cons (pe_callTy call_tuple_of (by rfl) T.n_tuple (by decide +kernel) (pa_cons (pe_lc (own := [("_", 2)]) (g := gName 2) (tt := tYes) rfl sc_Reading_value.nd (pi_range1 (by rfl) T.n_range (pa_cons (pv 1) pa_nil)) (blkOk_by (N := ["self", "size", "_"]) (sc := defScope s_Reading_value) (by decide +kernel)) (fun _ _ _ _ _ => pg_name (i := 2) sc_Reading_value.nd rfl (Or.inl rfl)) (fun _ _ _ _ _ => pts_nil) (fun _ _ _ _ _ => (mcall0 (ok_Reading_atom T) (hr.mono (by decide)) pass0 (pv 0)))) pa_nil)) pa_nil)))))))), ?_⟩
  walk_at "wp"
  refine R.m ?_
  cases x with
  | one a =>
    have R' : Rs K r lp L (cntd 0 ++ (a.e ++ t)) H := by
      rw [cnt_small (by decide)]
      exact R
    refine ctcall 0 R' (by omega) (by omega) (by omega) fun H1 f1 R1 => ?_
    walk_at "wp"
    exact R1.m (rcall a R1 ho fun v H2 f2 R2 d2 => k _ _ (f1.trans f2) R2 d2)
  | lst as =>
    have R' : Rs K r lp L (cntd 1 ++ (cntd as.length ++ (as.flatMap DAt.e ++ t))) H := by
      rw [cnt_small (by decide), ← List.append_assoc (cntd as.length)]
      exact R
    obtain ⟨o1, o2⟩ := ho
    refine ctcall 1 R' (by omega) (by omega) (by omega) fun H1 f1 R1 => ?_
    walk_at "wp"
    refine R1.m (ctcall as.length R1 (by omega) (by omega) (by omega) fun H2 f2 R2 => ?_)
    refine ⟨_, rfl, Int.le_trans (by decide : -(2 ^ 62 : Int) ≤ 0) (by omega), Int.lt_of_le_of_lt (by omega : (as.length : Int) ≤ 20000000) (by decide), ?_⟩
    refine lcR (D := DAt.d) as R2 (by omega) nl_at (by omega) (fun N H3 x u i hx f3 R3 kN => ?_) fun D H3 ys n f3 R3 hD hA => ?_
    · walk_at "wp"
      exact ⟨trivial, R3.m (rcall x R3 (o2 x hx) kN)⟩
    · refine ⟨D, ys, rfl, .inl ⟨.of hD, fun l nl => ⟨by decide, fun p np => ?_⟩⟩⟩
      have s1 := Same.new (o := .tup ys) nl
      refine k _ _ ((((f1.trans f2).trans f3).new nl).new np) ((R3.new nl).new np) (dp_tup np (.cons (.str _) (.cons ?_ .nil)))
      exact .tup (.of upd_same) ((SeqKeep.of s1).dpAll hA)
end
end Kt
set_option Elab.async false
set_option linter.all false
set_option maxRecDepth 100000
set_option maxHeartbeats 4000000
namespace Kt
open PySem PySem.Spec PyProof.Rows L2 Vl
local macro_rules | `(tactic| walk_at "wp") => `(tactic| simp only [L2.start, cxK, a_seq, a_next, a_asg, a_ret, a_retN, a_drop, a_ifS, a_break, a_cont, a_c, a_op, a_un, a_nil, a_cons, a_tup, a_lst, a_call, a_meth, a_make, a_cb, a_bm0, a_m1, a_bm, a_fld, a_sfld, a_sfldAug, a_aug, a_test, a_tB, a_and, a_or, a_not, a_if, a_sl, a_noPart, a_part,
  a_for, a_iTup, a_iList, a_iStr, a_iRng1, a_iRng2, rng1, rng2, a_lc, a_yes, a_gTup, a_gCons, a_gNil, a_gSub, wipe, List.set_cons_zero, List.set_cons_succ,
  v0, v1, v2, v3, v4, v5, v6, v7, v8, v9, v10, n0, n1, n2, n3, n4, n5, n6, n7, n8, n9, n10, i_0, i_c, i_u, e_i, e_s, e_b, e_n, ne_i, ne_s, ne_b, tst, tsi, tss, tsr, Vl.s0, Vl.s1, Vl.s2, Vl.s3, Vl.s4, Vl.s5, List.map_cons, List.map_nil, List.length_cons, List.length_nil, List.replicate, List.cons_append, List.nil_append, Nat.reduceAdd, Nat.reduceSub, decide_eq_true_eq, ofS, String.reduceEq, decide_true, decide_false, Bool.false_eq_true, Bool.not_true, Bool.not_false, if_true, if_false])
local macro_rules | `(tactic| walk_at "wk") => `(tactic| simp only [L2.start, cxK, a_seq, a_next, a_asg, a_ret, a_retN, a_drop, a_ifS, a_break, a_cont, a_c, q_eq, q_ne, q_in, q_ix, q_i0, q_iC, a_un, a_nil, a_cons, a_tup, a_meth, a_make, a_cb, a_bm0, a_m1, a_bm, a_fld, a_sfld, a_sfldAug, a_aug, a_test, a_tB, a_and, a_or, a_not, a_if, a_sl, a_noPart, a_part,
  a_for, a_iTup, a_iList, a_iStr, a_iRng1, a_iRng2, rng1, rng2, a_lc, a_yes, a_gTup, a_gCons, a_gNil, a_gSub, wipe, List.set_cons_zero, List.set_cons_succ,
  v0, v1, v2, v3, v4, v5, v6, v7, v8, v9, v10, n0, n1, n2, n3, n4, n5, n6, n7, n8, n9, n10, i_0, i_c, i_u, e_i, e_s, e_b, e_n, ne_i, ne_s, ne_b, tst, tsi, tss, tsr, Vl.s0, Vl.s1, Vl.s2, Vl.s3, Vl.s4, Vl.s5, List.map_cons, List.map_nil, List.length_cons, List.length_nil, List.replicate, List.cons_append, List.nil_append, Nat.reduceAdd, Nat.reduceSub, decide_eq_true_eq, ofS, String.reduceEq, decide_true, decide_false, Bool.false_eq_true, Bool.not_true, Bool.not_false, if_true, if_false])
section
variable {P : Program} {w : World} {K : PySem.W.Frag} {mg : Str → Option Value} {base : Heap}
theorem ok_is_reference (T : Txt K mg) : OkF P w K mg base CX0 "is_reference" 1 ["value"] (Sp1 fun a H Q _ => ∃ x : DAt, Dp K H a x.d ∧ ∀ H', Same H H' → Q (.bl x.ir) H') := by
  refine mkF T.d_is_reference T.g_is_reference sc_is_reference bw_is_reference (fun vs H Q E h => l1 h) (fun cdv A outer s H vs Q E hr h => ?_)
  obtain ⟨a, rfl, x, hd, k⟩ := h
  refine ⟨_, PSs.nox ((pss_one (ps_ret (pe_cmpR op_in_seq (pe_ix ix_tup (pv 0) pe_int (fun _ _ => rfl)) (pe_tup (pa_cons pe_str (pa_cons pe_str pa_nil))) (by rfl))))), ?_⟩
  obtain ⟨a, xs, rfl, hS, hx⟩ := at_head _ hd
  walk_at "wp"
  refine ix_t hS (atI_nat (j := 0) hx) ⟨by decide, fun p np => ?_⟩
  have hk := k _ (Same.new (o := .tup [V.str "object", V.str "promise"]) np)
  by_cases c : Str.ofString x.kd ∈ ([("object" : Str), "promise"] : List Str)
  · refine in_yes [_, _] upd_same c ?_
    rw [ir_yes c] at hk
    exact hk
  · refine in_no [_, _] upd_same c ?_
    rw [ir_no c] at hk
    exact hk
theorem ok_atoms (T : Txt K mg) : OkF P w K mg base CX0 "atoms" 1 ["value"] (Sp1 fun a H Q _ => ∃ x : DVa, Dp K H a x.d ∧ ∀ v H', Same H H' → Dp K H' v (.tuple (x.ats.map DAt.d)) → Q v H') := by
  refine mkF T.d_atoms T.g_atoms sc_atoms bw_atoms (fun vs H Q E h => l1 h) (fun cdv A outer s H vs Q E hr h => ?_)
  obtain ⟨a, rfl, x, hd, k⟩ := h
  refine ⟨_, PSs.nox ((pss_one (ps_ret (pe_ifExp (pt_cmpR op_eq (pe_ix ix_tup (pv 0) pe_int (fun _ _ => rfl)) pe_str (nomark _)) (pe_ix ix_tup (pv 0) pe_int (fun _ _ => rfl)) (pe_tup (pa_cons (pv 0) pa_nil)))))), ?_⟩
  cases x with
  | one t =>
    have hd0 := hd
    obtain ⟨a, xs, rfl, hS, hx⟩ := at_head _ hd
    walk_at "wp"
    refine ix_t hS (atI_nat (j := 0) hx) ?_
    rw [e_s, decide_eq_false (show ¬ Str.ofString t.kd = Str.ofString "list" by rw [ofS]; exact kd_list _)]
    walk_at "wp"
    exact ⟨by decide, fun p np => k _ _ (Same.new np) (dp_tup np (.cons hd0 .nil))⟩
  | lst as =>
    obtain ⟨a, y, z, rfl, hS, h1, h2⟩ := dT2 hd
    rw [dS] at h1
    subst h1
    walk_at "wp"
    refine ix_t hS rfl ?_
    walk_at "wp"
    exact ix_t hS rfl (k _ _ (Same.refl _) h2)
theorem ok_references (T : Txt K mg) : OkF P w K mg base CX0 "references" 2 ["value"] (Sp1 fun a H Q _ => ∃ x : DVa, Dp K H a x.d ∧ x.ats.length ≤ 1000 ∧ ∀ p H' ys, Same H H' → H p = none → H' p = some (.lst ys) → DpAll K H' ys (x.refs.map DRef.d) → Q (.ref p) H') := by
  refine mkF T.d_references T.g_references sc_references bw_references (fun vs H Q E h => l1 h) (fun cdv A outer s H vs Q E hr h => ?_)
  obtain ⟨a, rfl, x, hd, hn, k⟩ := h
  refine ⟨_, PSs.nox ((pss_one (ps_ret (pe_lc (own := [("atom", 1)]) (g := gName 1) rfl sc_references.nd (pi_tup (fcall (ok_atoms T) (hr.mono (by decide)) pass0 (pa_cons (pv 0) pa_nil))) (blkOk_by (N := ["value", "atom"]) (sc := defScope s_references) (by decide +kernel)) (fun _ _ _ _ _ => pg_name (i := 1) sc_references.nd rfl (Or.inl rfl)) (fun _ _ _ _ _ => (pts_one (pt_val (fcall (ok_is_reference T) (hr.mono (by decide)) pass0 (pa_cons (pv 1) pa_nil))))) (fun _ _ _ _ _ => (pv 1)))))), ?_⟩
  walk_at "wp"
  refine ⟨x, hd, fun v H1 s1 h1 => ?_⟩
  rw [dT] at h1
  obtain ⟨b, xs, rfl, hS, hA⟩ := h1
  have hx : xs.length = x.ats.length := by rw [DpAll.length hA, List.length_map]
  refine ⟨b, rfl, lcT (fun D i H2 => H1 D = none ∧ Same H1 H2 ∧ ∃ ys, H2 D = some (.lst ys) ∧ ys.length ≤ i ∧ DpAll K H2 ys (((x.ats.take i).flatMap DAt.refs).map DRef.d)) hS (fun D n => ⟨n, Same.new n, [], upd_same, Nat.le_refl _, .nil⟩) (fun D i H2 _ h => (TupKeep.of h.2.1).sqT hS) (fun D i v H2 hv ⟨n, s2, ys, hD, hl, hy⟩ => ?_) fun D H2 ⟨n, s2, ys, hD, hl, hy⟩ => ?_⟩
  · obtain ⟨d, hd2, hvd⟩ := DpAll.get hA hv
    rw [List.getElem?_map] at hd2
    have hil : i < xs.length := (List.getElem?_eq_some_iff.mp hv).1
    cases hq : x.ats[i]? with
    | none =>
      rw [hq] at hd2
      cases hd2
    | some z =>
      rw [hq] at hd2
      cases hd2
      have hvd2 := (SeqKeep.of s2).dp hvd
      have e1 : (x.ats.take (i + 1)).flatMap DAt.refs = (x.ats.take i).flatMap DAt.refs ++ z.refs := by
        rw [List.take_add_one, hq, List.flatMap_append]
        simp
      walk_at "wp"
      refine ⟨trivial, z, hvd2, fun H3 s3 => ?_⟩
      rw [e1]
      split
      · rename_i c
        obtain ⟨r, rfl, hr⟩ := refs_yes c
        have e3 := s3 _ _ hD
        refine ⟨ys, e3, small1000000 (by omega), n, Same.put (s2.trans s3) n, _, upd_same, by rw [List.length_append, List.length_singleton]; omega, ?_⟩
        rw [hr, List.map_append]
        have t3 := tup_upd (zs := ys ++ [v]) e3
        refine DpAll.app (t3.dpAll (noLs_of nl_ref _) ((SeqKeep.of s3).dpAll hy)) (.cons (t3.dp (nl_ref r) ((SeqKeep.of s3).dp hvd2)) .nil)
      · rename_i c
        rw [refs_no c, List.append_nil]
        exact ⟨n, s2.trans s3, ys, s3 _ _ hD, by omega, (SeqKeep.of s3).dpAll hy⟩
  · rw [hx, List.take_length] at hy
    exact k _ _ _ (s1.trans s2) (s1.free n) hD hy
theorem ok_distinct (T : Txt K mg) : OkF P w K mg base CX0 "distinct" 3 ["values"] (Sp1 fun a H Q _ => ∃ vs : List DVa, Dp K H a (.tuple (vs.map DVa.d)) ∧ vs.length ≤ 4 ∧ (∀ x ∈ vs, x.ok) ∧ ∀ p H' ys, Same H H' → H p = none → H' p = some (.lst ys) → DpAll K H' ys ((dist vs).map DRef.d) → Q (.ref p) H') := by
  refine mkF T.d_distinct T.g_distinct sc_distinct bw_distinct (fun vs H Q E h => l1 h) (fun cdv A outer s H vs Q E hr h => ?_)
  obtain ⟨a, rfl, vs, hd, hn, hok, k⟩ := h
  refine ⟨_, PSs.nox ((pss_cons (ps_set (i := 1) sc_distinct.nd rfl (by first | exact Or.inl rfl | exact Or.inr rfl) (pe_lst pa_nil))
    (pss_cons (ps_for PassesOwn.never rfl (pi_tup (pv 0)) (pg_name (i := 2) sc_distinct.nd rfl (by first | exact Or.inl rfl | exact Or.inr rfl))
      (pss_one (ps_for PassesOwn.never rfl (pi_list (fcall (ok_references T) (hr.mono (by decide)) pass0 (pa_cons (pv 2) pa_nil))) (pg_name (i := 3) sc_distinct.nd rfl (by first | exact Or.inl rfl | exact Or.inr rfl))
      (pss_one (ps_if (pt_cmpR (op_notInD (hu65 hr)) (pv 3) (pv 1) (by rfl))
      (pss_one (ps_expr (pe_bm PySem.F.plainAttrs_list PySem.F.slot_list_append PySem.F.type_list_append mt_append (pv 1) (pa_cons (pv 3) pa_nil))))
      pss_nil)))))
    (pss_one (ps_ret (pv 1)))))), ?_⟩
  rw [dT] at hd
  obtain ⟨a, xs, rfl, hS, hA⟩ := hd
  have hx : xs.length = vs.length := by rw [DpAll.length hA, List.length_map]
  have hbig := refs_len vs hn hok
  walk_at "wp"
  refine ⟨by decide, fun p np => ?_⟩
  have s0 := Same.new (o := .lst []) np
  refine forT (fun i σ H2 => ∃ ys y2 y3, σ = [some (.ref a), some (.ref p), y2, y3] ∧ H2 p = some (.lst ys) ∧ DpAll K H2 ys ((((vs.take i).flatMap DVa.refs).foldl addR []).map DRef.d) ∧ Same H H2) ((TupKeep.of s0).sqT hS) ⟨[], none, none, rfl, upd_same, .nil, s0⟩ (fun i σ H2 _ h => ?_) ?_ ?_
  · obtain ⟨ys, y2, y3, _, _, _, s2⟩ := h
    exact (TupKeep.of s2).sqT hS
  · rintro i v σ H2 hv ⟨ys, y2, y3, rfl, hp, hy, s2⟩
    obtain ⟨d, hd2, hvd⟩ := DpAll.get hA hv
    rw [List.getElem?_map] at hd2
    cases hq : vs[i]? with
    | none =>
      rw [hq] at hd2
      cases hd2
    | some z =>
      rw [hq] at hd2
      cases hd2
      have hzo := hok z (List.mem_of_getElem? hq)
      have e1 : (vs.take (i + 1)).flatMap DVa.refs = (vs.take i).flatMap DVa.refs ++ z.refs := by
        rw [List.take_add_one, hq, List.flatMap_append]
        simp
      have e2 : vs.flatMap DVa.refs = (vs.take (i + 1)).flatMap DVa.refs ++ (vs.drop (i + 1)).flatMap DVa.refs := by rw [← List.flatMap_append, List.take_append_drop]
      walk_at "wp"
      refine ⟨z, (SeqKeep.of s2).dp hvd, ?_, fun q H3 zs s3 nq hq3 hz => ?_⟩
      · cases z with
        | one a => exact (by decide : 1 ≤ 1000)
        | lst as => exact Nat.le_trans hzo.1 (by decide)
      have qp : q ≠ p := fun e => by
        rw [e, hp] at nq
        cases nq
      have hzl : zs.length = z.refs.length := by rw [DpAll.length hz, List.length_map]
      rw [e1]
      refine forL (fun j σ H4 => ∃ ys y3, σ = [some (.ref a), some (.ref p), some v, y3] ∧ H4 p = some (.lst ys) ∧ DpAll K H4 ys ((((vs.take i).flatMap DVa.refs ++ z.refs.take j).foldl addR []).map DRef.d) ∧ Same H H4 ∧ H4 q = some (.lst zs) ∧ DpAll K H4 zs (z.refs.map DRef.d)) (.of hq3) ⟨ys, y3, rfl, s3 _ _ hp, ?_, s2.trans s3, hq3, hz⟩ (fun j σ H4 _ h => ?_) ?_ ?_
      · rw [List.take_zero, List.append_nil]
        exact (SeqKeep.of s3).dpAll hy
      · obtain ⟨_, _, _, _, _, _, h, _⟩ := h
        exact .of h
      · rintro j u σ H4 hu ⟨ys4, y4, rfl, hp4, hy4, s4, hq4, hz4⟩
        obtain ⟨d5, hd5, hud⟩ := DpAll.get hz4 hu
        rw [List.getElem?_map] at hd5
        cases hj : z.refs[j]? with
        | none =>
          rw [hj] at hd5
          cases hd5
        | some r =>
          rw [hj] at hd5
          cases hd5
          have e3 : (((vs.take i).flatMap DVa.refs ++ z.refs.take (j + 1)).foldl addR []) = addR (((vs.take i).flatMap DVa.refs ++ z.refs.take j).foldl addR []) r := by
            rw [List.take_add_one, hj, ← List.append_assoc, List.foldl_append]
            rfl
          have hle : (((vs.take i).flatMap DVa.refs ++ z.refs.take j).foldl addR []).length ≤ 1000 := by
            have h1 := addR_len ((vs.take i).flatMap DVa.refs ++ z.refs.take j) []
            have h2 : (z.refs.take j).length ≤ z.refs.length := by rw [List.length_take]; omega
            rw [e2, e1] at hbig
            simp only [List.length_append, List.length_nil] at h1 hbig
            omega
          walk_at "wp"
          rw [e3]
          refine nin_refs hud hp4 hy4 ⟨_, rfl, ?_⟩
          by_cases c : r ∈ ((vs.take i).flatMap DVa.refs ++ z.refs.take j).foldl addR []
          · rw [decide_eq_true c, if_neg (by decide)]
            rw [addR_in c]
            exact ⟨ys4, _, rfl, hp4, hy4, s4, hq4, hz4⟩
          · rw [decide_eq_false c, if_pos (by decide)]
            refine ⟨ty_lst (.of hp4), m_app hp4 (small1000000 (by rw [DpAll.length hy4, List.length_map]; omega)) ⟨_, _, rfl, upd_same, ?_, Same.put s4 np, ?_, ?_⟩⟩
            · rw [addR_out c, List.map_append]
              have t3 := tup_upd (zs := ys4 ++ [u]) hp4
              exact DpAll.app (t3.dpAll (noLs_of nl_ref _) hy4) (.cons (t3.dp (nl_ref r) hud) .nil)
            · rw [upd_ne qp]
              exact hq4
            · exact (tup_upd hp4).dpAll (noLs_of nl_ref _) hz4
      · rintro σ H4 ⟨ys4, y4, rfl, hp4, hy4, s4, hq4, hz4⟩
        rw [hzl, List.take_length] at hy4
        exact ⟨ys4, _, _, rfl, hp4, hy4, s4⟩
  · rintro σ H2 ⟨ys, y2, y3, rfl, hp, hy, s2⟩
    rw [hx, List.take_length] at hy
    walk_at "wp"
    exact k _ _ _ s2 np hp hy
theorem ok_read_send (T : Txt K mg) : OkF P w K mg base CX0 "read_send" 3 ["reading"] (spR K DSd.d DSd.ok DSd.e) := by
  refine mkF T.d_read_send T.g_read_send sc_read_send bw_read_send (fun vs H Q E h => l1 h) (fun cdv A outer s H vs Q E hr h => ?_)
  obtain ⟨_, rfl, r, lp, L, t, x, rfl, R, ho, k⟩ := h
  refine ⟨_, PSs.nox ((pss_cons (ps_set (i := 1) sc_read_send.nd rfl (by first | exact Or.inl rfl | exact Or.inr rfl) (mcall (ok_Reading_count T) (hr.mono (by decide)) pass0 (pv 0) (pa_cons pe_int (pa_cons (pgI T.c_VAT_MOST) pa_nil))))
    (pss_one (ps_ret (pe_tup (pa_cons (pv 1) (pa_cons (mcall (ok_Reading_count T) (hr.mono (by decide)) pass0 (pv 0) (pa_cons pe_int (pa_cons (pgI T.c_NUMBER_MOST) pa_nil))) pa_nil))))))), ?_⟩
  walk_at "wp"
  rw [DSd.e, List.append_assoc] at R
  obtain ⟨o1, o2, o3, o4⟩ := ho
  refine R.m (ctcall x.v R (by omega) (by omega) (by omega) fun H1 f1 R1 => ?_)
  refine R1.m (ctcall x.n R1 (by omega) (by omega) (by omega) fun H2 f2 R2 => ?_)
  exact ⟨by decide, fun p np => k _ _ ((f1.trans f2).new np) (R2.new np) (dp_tup np (.cons (.int _) (.cons (.int _) .nil)))⟩
theorem ok_read_weights (T : Txt K mg) : OkF P w K mg base CX0 "read_weights" 4 ["reading", "values"] (Sp2 fun a b H Q _ => ∃ r lp L t vs sh, a = .ref r ∧ Rs K r lp L (rowd DWt.en sh ++ t) H ∧ Dp K H b (.tuple (vs.map DVa.d)) ∧ vs.length ≤ 4 ∧ (∀ x ∈ vs, x.ok) ∧ Sh vs sh ∧ ∀ v H', Off (· = r) H H' → Rs K r lp L t H' → Dp K H' v (.tuple (sh.map DWt.d)) → Q v H') := by
  refine mkF T.d_read_weights T.g_read_weights sc_read_weights bw_read_weights (fun vs H Q E h => l2 h) (fun cdv A outer s H vs Q E hr h => ?_)
  obtain ⟨_, b, rfl, r, lp, L, t, vs, sh, rfl, R, hv, hn, hok, ⟨hs, hso⟩, k⟩ := h
  refine ⟨_, PSs.nox ((pss_cons (ps_set (i := 2) sc_read_weights.nd rfl (by first | exact Or.inl rfl | exact Or.inr rfl) (pe_callB call_len_seq (by rfl) T.n_len PySem.boot_len (pa_cons (fcall (ok_distinct T) (hr.mono (by decide)) pass0 (pa_cons (pv 1) pa_nil)) pa_nil)))
    (pss_cons (ps_expr (mcall (ok_Reading_count T) (hr.mono (by decide)) pass0 (pv 0) (pa_cons (pv 2) (pa_cons (pv 2) pa_nil))))
    (pss_one (ps_ret (pe_callTy call_tuple_of (by rfl) T.n_tuple (by decide +kernel) (pa_cons (pe_lc (own := [("_", 3)]) (g := gName 3) (tt := tYes) rfl sc_read_weights.nd (pi_range1 (by rfl) T.n_range (pa_cons (pv 2) pa_nil)) (blkOk_by (N := ["reading", "values", "size", "_"]) (sc := defScope s_read_weights) (by decide +kernel)) (fun _ _ _ _ _ => pg_name (i := 3) sc_read_weights.nd rfl (Or.inl rfl)) (fun _ _ _ _ _ => pts_nil) (fun _ _ _ _ _ => (mcall0 (ok_Reading_weight T) (hr.mono (by decide)) pass0 (pv 0)))) pa_nil))))))), ?_⟩
  walk_at "wp"
  refine ⟨vs, hv, hn, hok, fun p H1 ys s1 np hp hA => ?_⟩
  have R1 := R.keep s1
  rw [rowd, List.append_assoc] at R1
  have hle : sh.length ≤ 1000 := by
    have h1 := refs_len vs hn hok
    have h2 := addR_len (vs.flatMap DVa.refs) []
    rw [hs]
    unfold dist
    simp only [List.length_nil] at h2
    omega
  have hyl : ys.length = sh.length := by rw [DpAll.length hA, List.length_map, hs]
  refine ⟨p, ys, rfl, .inl (.of hp), ?_⟩
  rw [hyl]
  refine R1.m (ctcall sh.length R1 (Int.le_refl _) (Int.le_refl _) (by omega) fun H2 f2 R2 => ?_)
  refine ⟨_, rfl, Int.le_trans (by decide : -(2 ^ 62 : Int) ≤ 0) (by omega), Int.lt_of_le_of_lt (by omega : (sh.length : Int) ≤ 20000000) (by decide), ?_⟩
  refine lcR (D := DWt.d) sh R2 (by omega) nl_wt (by omega) (fun N H3 x u i hx f3 R3 kN => ?_) fun D H3 zs n f3 R3 hD hA3 => ?_
  · walk_at "wp"
    exact ⟨trivial, R3.m (rcall x R3 (hso x hx) kN)⟩
  · refine ⟨D, zs, rfl, .inl ⟨.of hD, fun l nl => k _ _ (((Off.of s1).trans (f2.trans f3)).new nl) (R3.new nl) (dp_tup nl hA3)⟩⟩
theorem ok_read_method (T : Txt K mg) : OkF P w K mg base CX0 "read_method" 3 ["reading"] (spR K pS Name eS) := by
  refine mkF T.d_read_method T.g_read_method sc_read_method bw_read_method (fun vs H Q E h => l1 h) (fun cdv A outer s H vs Q E hr h => ?_)
  obtain ⟨_, rfl, r, lp, L, t, ks, rfl, R, ⟨o1, o2, o3⟩, k⟩ := h
  refine ⟨_, PSs.nox ((pss_cons (ps_set (i := 1) sc_read_method.nd rfl (by first | exact Or.inl rfl | exact Or.inr rfl) pe_str)
    (pss_cons (ps_for PassesOwn.never rfl (pi_range1 (by rfl) T.n_range (pa_cons (mcall (ok_Reading_count T) (hr.mono (by decide)) pass0 (pv 0) (pa_cons pe_int (pa_cons (pgI T.c_NAME_MOST) pa_nil))) pa_nil)) (pg_name (i := 2) sc_read_method.nd rfl (by first | exact Or.inl rfl | exact Or.inr rfl))
      (pss_cons (ps_set (i := 3) sc_read_method.nd rfl (by first | exact Or.inl rfl | exact Or.inr rfl) (pe_ix ix_str (pgS T.c_CHARACTERS) (mcall (ok_Reading_count T) (hr.mono (by decide)) pass0 (pv 0) (pa_cons pe_int (pa_cons (pe_op op_sub (pe_callB call_len_str (by rfl) T.n_len PySem.boot_len (pa_cons (pgS T.c_CHARACTERS) pa_nil)) pe_int) pa_nil))) (fun _ _ => rfl)))
    (pss_cons (ps_if (pt_cmpR op_notIn_sign (pv 3) (pgS T.c_LETTERS) (by rfl))
      (pss_one ps_never)
      pss_nil)
    (pss_one (ps_set (i := 1) sc_read_method.nd rfl (by first | exact Or.inl rfl | exact Or.inr rfl) (pe_op op_add_str (pv 1) (pv 3)))))))
    (pss_one (ps_ret (pv 1)))))), ?_⟩
  walk_at "wp"
  rw [eS, List.append_assoc] at R
  refine R.m (ctcall ks.length R (by omega) (by omega) (by omega) fun H1 f1 R1 => ?_)
  refine ⟨_, rfl, Int.le_trans (by decide : -(2 ^ 62 : Int) ≤ 0) (by omega), Int.lt_of_le_of_lt (by omega : (ks.length : Int) ≤ 20000000) (by decide), ?_⟩
  refine forN (fun i σ H2 => ∃ y2 y3, σ = [some (.ref r), some (.str (ofIx (ks.take i))), y2, y3] ∧ Off (· = r) H H2 ∧ Rs K r lp L ((ks.drop i).map nat ++ t) H2) ⟨none, none, rfl, f1, R1⟩ ?_ ?_
  · rintro i σ H2 hi ⟨y2, y3, rfl, f2, R2⟩
    have hlt : i < ks.length := by omega
    have he : ks.drop i = ks[i] :: ks.drop (i + 1) := List.drop_eq_getElem_cons hlt
    have hki := o1 ks[i] (List.getElem_mem hlt)
    rw [he, List.map_cons, show nat ks[i] :: List.map nat (List.drop (i + 1) ks) = cntd ks[i] ++ (ks.drop (i + 1)).map nat by rw [cnt_small (by omega)]; rfl, List.append_assoc] at R2
    walk_at "wp"
    refine R2.m ⟨charsS, rfl, by rw [chars_len]; decide, ?_⟩
    rw [chars_len]
    refine ctcall ks[i] R2 (by omega) (by omega) (by omega) fun H3 f3 R3 => ixc (by omega) ?_
    refine ⟨sgAt ks[i], _, rfl, rfl, ?_⟩
    rw [decide_eq_true (let_mem _ hki.2 hki.1)]
    walk_at "wp"
    refine ⟨_, _, rfl, rfl, ?_, ?_⟩
    · rw [ofIx_len, List.length_take]
      refine le1000000 ?_
      show _ + 1 ≤ _
      omega
    · rw [ofIx_snoc, show ks.take i ++ [ks[i]] = ks.take (i + 1) by rw [List.take_add_one, List.getElem?_eq_getElem hlt]; rfl]
      exact ⟨_, _, rfl, f2.trans f3, R3⟩
  · rintro σ H2 ⟨y2, y3, rfl, f2, R2⟩
    have e1 : ((ks.length : Int)).toNat = ks.length := by omega
    rw [e1, List.drop_length] at R2
    rw [e1, List.take_length]
    walk_at "wp"
    exact k _ _ f2 R2 (.str _)
theorem ok_read_message (T : Txt K mg) : OkF P w K mg base CX0 "read_message" 6 ["reading"] (spR K DMsg.d DMsg.ok DMsg.e) := by
  refine mkF T.d_read_message T.g_read_message sc_read_message bw_read_message (fun vs H Q E h => l1 h) (fun cdv A outer s H vs Q E hr h => ?_)
  obtain ⟨_, rfl, r, lp, L, t, m, rfl, R, ho, k⟩ := h
  refine ⟨_, PSs.nox ((pss_cons (ps_set (i := 1) sc_read_message.nd rfl (by first | exact Or.inl rfl | exact Or.inr rfl) (fcall (ok_read_send T) (hr.mono (by decide)) pass0 (pa_cons (pv 0) pa_nil)))
    (pss_cons (ps_set (i := 2) sc_read_message.nd rfl (by first | exact Or.inl rfl | exact Or.inr rfl) (mcall0 (ok_Reading_reference T) (hr.mono (by decide)) pass0 (pv 0)))
    (pss_cons (ps_set (i := 3) sc_read_message.nd rfl (by first | exact Or.inl rfl | exact Or.inr rfl) (mcall (ok_Reading_count T) (hr.mono (by decide)) pass0 (pv 0) (pa_cons pe_int (pa_cons (pgI T.c_NUMBER_MOST) pa_nil))))
    (pss_cons (ps_set (i := 4) sc_read_message.nd rfl (by first | exact Or.inl rfl | exact Or.inr rfl) (fcall (ok_read_method T) (hr.mono (by decide)) pass0 (pa_cons (pv 0) pa_nil)))
    (pss_cons (ps_set (i := 5) sc_read_message.nd rfl (by first | exact Or.inl rfl | exact Or.inr rfl) (pe_callTy call_tuple_of (by rfl) T.n_tuple (by decide +kernel) (pa_cons (pe_lc (own := [("_", 6)]) (g := gName 6) (tt := tYes) rfl sc_read_message.nd (pi_range1 (by rfl) T.n_range (pa_cons (mcall (ok_Reading_count T) (hr.mono (by decide)) pass0 (pv 0) (pa_cons pe_int (pa_cons (pgI T.c_ARGUMENTS_MOST) pa_nil))) pa_nil)) (blkOk_by (N := ["reading", "send", "target", "place", "method", "arguments", "_", "path"]) (sc := defScope s_read_message) (by decide +kernel)) (fun _ _ _ _ _ => pg_name (i := 6) sc_read_message.nd rfl (Or.inl rfl)) (fun _ _ _ _ _ => pts_nil) (fun _ _ _ _ _ => (mcall0 (ok_Reading_value T) (hr.mono (by decide)) pass0 (pv 0)))) pa_nil)))
    (pss_cons (ps_set (i := 7) sc_read_message.nd rfl (by first | exact Or.inl rfl | exact Or.inr rfl) (pe_callTy call_tuple_of (by rfl) T.n_tuple (by decide +kernel) (pa_cons (pe_lc (own := [("_", 6)]) (g := gName 6) (tt := tYes) rfl sc_read_message.nd (pi_range1 (by rfl) T.n_range (pa_cons (mcall (ok_Reading_count T) (hr.mono (by decide)) pass0 (pv 0) (pa_cons pe_int (pa_cons (pgI T.c_PATH_MOST) pa_nil))) pa_nil)) (blkOk_by (N := ["reading", "send", "target", "place", "method", "arguments", "_", "path"]) (sc := defScope s_read_message) (by decide +kernel)) (fun _ _ _ _ _ => pg_name (i := 6) sc_read_message.nd rfl (Or.inl rfl)) (fun _ _ _ _ _ => pts_nil) (fun _ _ _ _ _ => (fcall (ok_read_send T) (hr.mono (by decide)) pass0 (pa_cons (pv 0) pa_nil)))) pa_nil)))
    (pss_one (ps_ret (pe_tup (pa_cons (pv 1) (pa_cons (pv 2) (pa_cons (pv 3) (pa_cons (pv 4) (pa_cons (pv 5) (pa_cons (pv 7) pa_nil)))))))))))))))), ?_⟩
  walk_at "wp"
  obtain ⟨o1, o2, o3, o4, ⟨o5, o5b⟩, o6, o6b⟩ := ho
  simp only [DMsg.e, rowd, List.append_assoc] at R
  refine rcall m.send R o1 fun v1 H1 f1 R1 d1 => ?_
  refine R1.m (rcall m.target R1 o2 fun v2 H2 f2 R2 d2 => ?_)
  refine R2.m (ctcall m.place R2 (by omega) (by omega) (by omega) fun H3 f3 R3 => ?_)
  refine rcall m.method R3 o4 fun v4 H4 f4 R4 d4 => ?_
  refine R4.m (ctcall m.args.length R4 (by omega) (by omega) (by omega) fun H5 f5 R5 => ?_)
  refine ⟨_, rfl, (rgb (by omega)).1, (rgb (by omega)).2, ?_⟩
  refine lcR (D := DVa.d) m.args R5 (by omega) nl_va (by omega) (fun N H6 x u i hx f6 R6 kN => ?_) fun D H6 zs n6 f6 R6 hD6 hA6 => ⟨D, zs, rfl, .inl ⟨.of hD6, fun l nl => ?_⟩⟩
  · walk_at "wp"
    exact ⟨trivial, R6.m (rcall x R6 (o5b x hx) kN)⟩
  have R7 := R6.new (o := .tup zs) nl
  have d5 := dp_tup nl hA6
  have f7 := f6.new (o := .tup zs) nl
  refine R7.m (ctcall m.path.length R7 (by omega) (by omega) (by omega) fun H8 f8 R8 => ?_)
  refine ⟨_, rfl, (rgb (by omega)).1, (rgb (by omega)).2, ?_⟩
  refine lcR (D := DSd.d) m.path R8 (by omega) nl_sd (by omega) (fun N H9 x u i hx f9 R9 kN => ?_) fun D2 H9 zs2 n9 f9 R9 hD9 hA9 => ⟨D2, zs2, rfl, .inl ⟨.of hD9, fun l2 nl2 => ⟨by decide, fun p np => ?_⟩⟩⟩
  · walk_at "wp"
    exact ⟨trivial, rcall x R9 (o6b x hx) kN⟩
  have R10 := R9.new (o := .tup zs2) nl2
  have d6 := dp_tup nl2 hA9
  have f10 := f9.new (o := .tup zs2) nl2
  have k1 := Off.tup R1 (f2.trans (f3.trans (f4.trans (f5.trans (f7.trans (f8.trans f10))))))
  have k2 := Off.tup R2 (f3.trans (f4.trans (f5.trans (f7.trans (f8.trans f10)))))
  have k4 := Off.tup R4 (f5.trans (f7.trans (f8.trans f10)))
  have k7 := Off.tup R7 (f8.trans f10)
  refine k _ _ ((f1.trans (f2.trans (f3.trans (f4.trans (f5.trans (f7.trans (f8.trans f10))))))).new np) (R10.new np) (dp_tup np ?_)
  exact .cons (k1.dp (nl_sd _) d1) (.cons (k2.dp (nl_ref _) d2) (.cons (.int _) (.cons (k4.dp rfl d4) (.cons (k7.dp (noLs_of nl_va _) d5) (.cons d6 .nil)))))
theorem ok_read_target (T : Txt K mg) : OkF P w K mg base CX0 "read_target" 3 ["reading"] (spR K DTg.d DTg.ok DTg.e) := by
  refine mkF T.d_read_target T.g_read_target sc_read_target bw_read_target (fun vs H Q E h => l1 h) (fun cdv A outer s H vs Q E hr h => ?_)
  obtain ⟨_, rfl, r, lp, L, t, x, rfl, R, ho, k⟩ := h
  refine ⟨_, PSs.nox ((pss_cons (ps_set (i := 1) sc_read_target.nd rfl (by first | exact Or.inl rfl | exact Or.inr rfl) (pe_ix ix_tup (pgR T.c_TARGETS) (mcall (ok_Reading_count T) (hr.mono (by decide)) pass0 (pv 0) (pa_cons pe_int (pa_cons pe_int pa_nil))) (fun _ _ => rfl)))
    (pss_cons (ps_if (pt_cmpR op_eq (pv 1) pe_str (nomark _))
      (pss_cons (ps_set (i := 2) sc_read_target.nd rfl (by first | exact Or.inl rfl | exact Or.inr rfl) (mcall (ok_Reading_count T) (hr.mono (by decide)) pass0 (pv 0) (pa_cons pe_int (pa_cons (pgI T.c_VAT_MOST) pa_nil))))
    (pss_one (ps_ret (pe_tup (pa_cons (pv 1) (pa_cons (pv 2) (pa_cons (mcall (ok_Reading_count T) (hr.mono (by decide)) pass0 (pv 0) (pa_cons pe_int (pa_cons (pgI T.c_NUMBER_MOST) pa_nil))) pa_nil)))))))
      pss_nil)
    (pss_one (ps_ret (pe_tup (pa_cons (pv 1) (pa_cons (mcall (ok_Reading_count T) (hr.mono (by decide)) pass0 (pv 0) (pa_cons pe_int (pa_cons (pgI T.c_NUMBER_MOST) pa_nil))) pa_nil)))))))), ?_⟩
  walk_at "wp"
  have hT := sqT_strs (ys := ["object", "promise", "answer"]) (T.t_TARGETS H)
  refine R.m ?_
  cases x with
  | obj n =>
    obtain ⟨o1, o2⟩ := ho
    have R' : Rs K r lp L (cntd 0 ++ (cntd n ++ t)) H := by
      rw [cnt_small (by decide)]
      exact R
    refine ctcall 0 R' (by omega) (by omega) (by omega) fun H1 f1 R1 => ?_
    refine ix_t ((Off.tup R f1).sqT hT) rfl ?_
    walk_at "wp"
    refine R1.m (ctcall n R1 (by omega) (by omega) (by omega) fun H2 f2 R2 => ?_)
    exact ⟨by decide, fun p np => k _ _ ((f1.trans f2).new np) (R2.new np) (dp_tup np (.cons (.str _) (.cons (.int _) .nil)))⟩
  | prom n =>
    obtain ⟨o1, o2⟩ := ho
    have R' : Rs K r lp L (cntd 1 ++ (cntd n ++ t)) H := by
      rw [cnt_small (by decide)]
      exact R
    refine ctcall 1 R' (by omega) (by omega) (by omega) fun H1 f1 R1 => ?_
    refine ix_t ((Off.tup R f1).sqT hT) rfl ?_
    walk_at "wp"
    refine R1.m (ctcall n R1 (by omega) (by omega) (by omega) fun H2 f2 R2 => ?_)
    exact ⟨by decide, fun p np => k _ _ ((f1.trans f2).new np) (R2.new np) (dp_tup np (.cons (.str _) (.cons (.int _) .nil)))⟩
  | ans v q =>
    obtain ⟨⟨o1, o2⟩, o3, o4⟩ := ho
    have R' : Rs K r lp L (cntd 2 ++ (cntd v ++ (cntd q ++ t))) H := by
      rw [cnt_small (by decide), ← List.append_assoc (cntd v)]
      exact R
    refine ctcall 2 R' (by omega) (by omega) (by omega) fun H1 f1 R1 => ?_
    refine ix_t ((Off.tup R f1).sqT hT) rfl ?_
    walk_at "wp"
    refine R1.m (ctcall v R1 (by omega) (by omega) (by omega) fun H2 f2 R2 => ?_)
    refine R2.m (ctcall q R2 (by omega) (by omega) (by omega) fun H3 f3 R3 => ?_)
    exact ⟨by decide, fun p np => k _ _ (((f1.trans f2).trans f3).new np) (R3.new np) (dp_tup np (.cons (.str _) (.cons (.int _) (.cons (.int _) .nil))))⟩
theorem ok_read_message_content (T : Txt K mg) : OkF P w K mg base CX0 "read_message_content" 7 ["reading"] (spR K DCo.d (fun c => c.ok ∧ c.k = 0) DCo.e) := by
  refine mkF T.d_read_message_content T.g_read_message_content sc_read_message_content bw_read_message_content (fun vs H Q E h => l1 h) (fun cdv A outer s H vs Q E hr h => ?_)
  obtain ⟨_, rfl, r, lp, L, t, x, rfl, R, ho, k⟩ := h
  refine ⟨_, PSs.nox ((pss_cons (ps_set (i := 1) sc_read_message_content.nd rfl (by first | exact Or.inl rfl | exact Or.inr rfl) (fcall (ok_read_message T) (hr.mono (by decide)) pass0 (pa_cons (pv 0) pa_nil)))
    (pss_cons (ps_set (i := 2) sc_read_message_content.nd rfl (by first | exact Or.inl rfl | exact Or.inr rfl) (fcall (ok_read_target T) (hr.mono (by decide)) pass0 (pa_cons (pv 0) pa_nil)))
    (pss_cons (ps_set (i := 3) sc_read_message_content.nd rfl (by first | exact Or.inl rfl | exact Or.inr rfl) (mcall0 (ok_Reading_weight T) (hr.mono (by decide)) pass0 (pv 0)))
    (pss_cons (ps_set (i := 4) sc_read_message_content.nd rfl (by first | exact Or.inl rfl | exact Or.inr rfl) (mcall (ok_Reading_count T) (hr.mono (by decide)) pass0 (pv 0) (pa_cons pe_int (pa_cons (pgI T.c_NUMBER_MOST) pa_nil))))
    (pss_one (ps_ret (pe_tup (pa_cons pe_str (pa_cons (pv 1) (pa_cons (pv 2) (pa_cons (pv 3) (pa_cons (pv 4) (pa_cons (fcall (ok_read_weights T) (hr.mono (by decide)) pass0 (pa_cons (pv 0) (pa_cons (pe_ix ix_tup (pv 1) pe_int (fun _ _ => rfl)) pa_nil))) pa_nil)))))))))))))), ?_⟩
  walk_at "wp"
  obtain ⟨ho, hk⟩ := ho
  cases x with
  | message m tg w q sh =>
    obtain ⟨o1, o2, o3, o4, o5⟩ := ho
    simp only [DCo.e, List.append_assoc] at R
    refine rcall m R o1 fun v1 H1 f1 R1 d1 => ?_
    refine rcall tg R1 o2 fun v2 H2 f2 R2 d2 => ?_
    refine R2.m (rcall w R2 o3 fun v3 H3 f3 R3 d3 => ?_)
    refine R3.m (ctcall q R3 (by have := o4.1; omega) (by have := o4.2; omega) (by have := o4.2; omega) fun H4 f4 R4 => ?_)
    have k1 := Off.tup R1 (f2.trans (f3.trans f4))
    have k2 := Off.tup R2 (f3.trans f4)
    have k3 := Off.tup R3 f4
    have d1' := k1.dp (nl_msg _) d1
    obtain ⟨a, y1, y2, y3, y4, y5, y6, rfl, hS, h1, h2, h3, h4, h5, h6⟩ := dT6 d1'
    refine ix_t hS rfl ⟨r, lp, L, t, m.args, sh, rfl, R4, h5, o1.2.2.2.2.1.1, o1.2.2.2.2.1.2, o5, fun v H5 f5 R5 d5 => ⟨by decide, fun p np => ?_⟩⟩
    have k5 := Off.tup R4 f5
    exact k _ _ ((f1.trans (f2.trans (f3.trans (f4.trans f5)))).new np) (R5.new np) (dp_tup np (.cons (.str _) (.cons (k5.dp (nl_msg _) d1') (.cons (k5.dp (nl_tg _) (k2.dp (nl_tg _) d2)) (.cons (k5.dp (nl_wt _) (k3.dp (nl_wt _) d3)) (.cons (.int _) (.cons d5 .nil)))))))
  | fulfill r n x sh =>
    cases r
    · exact absurd hk (show ¬ (1 : Int) = 0 by decide)
    · exact absurd hk (show ¬ (4 : Int) = 0 by decide)
  | brk r n x =>
    cases r
    · exact absurd hk (show ¬ (2 : Int) = 0 by decide)
    · exact absurd hk (show ¬ (5 : Int) = 0 by decide)
  | subscribe n w => exact absurd hk (show ¬ (3 : Int) = 0 by decide)
  | release n w => exact absurd hk (show ¬ (6 : Int) = 0 by decide)
  | relans n w => exact absurd hk (show ¬ (7 : Int) = 0 by decide)
  | transfer n w => exact absurd hk (show ¬ (8 : Int) = 0 by decide)
end
end Kt
set_option Elab.async false
set_option linter.all false
set_option maxRecDepth 100000
set_option maxHeartbeats 4000000
namespace Kt
open PySem PySem.Spec PyProof.Rows L2 Vl
local macro_rules | `(tactic| walk_at "wp") => `(tactic| simp only [L2.start, cxK, a_seq, a_next, a_asg, a_ret, a_retN, a_drop, a_ifS, a_break, a_cont, a_c, a_op, a_un, a_nil, a_cons, a_tup, a_lst, a_call, a_meth, a_make, a_cb, a_bm0, a_m1, a_bm, a_fld, a_sfld, a_sfldAug, a_aug, a_test, a_tB, a_and, a_or, a_not, a_if, a_sl, a_noPart, a_part,
  a_for, a_iTup, a_iList, a_iStr, a_iRng1, a_iRng2, rng1, rng2, a_lc, a_yes, a_gTup, a_gCons, a_gNil, a_gSub, wipe, List.set_cons_zero, List.set_cons_succ,
  v0, v1, v2, v3, v4, v5, v6, v7, v8, v9, v10, n0, n1, n2, n3, n4, n5, n6, n7, n8, n9, n10, i_0, i_c, i_u, e_i, e_s, e_b, e_n, ne_i, ne_s, ne_b, tst, tsi, tss, tsr, Vl.s0, Vl.s1, Vl.s2, Vl.s3, Vl.s4, Vl.s5, List.map_cons, List.map_nil, List.length_cons, List.length_nil, List.replicate, List.cons_append, List.nil_append, Nat.reduceAdd, Nat.reduceSub, decide_eq_true_eq, ofS, String.reduceEq, decide_true, decide_false, Bool.false_eq_true, Bool.not_true, Bool.not_false, if_true, if_false])
local macro_rules | `(tactic| walk_at "wk") => `(tactic| simp only [L2.start, cxK, a_seq, a_next, a_asg, a_ret, a_retN, a_drop, a_ifS, a_break, a_cont, a_c, q_eq, q_ne, q_in, q_ix, q_i0, q_iC, a_un, a_nil, a_cons, a_tup, a_meth, a_make, a_cb, a_bm0, a_m1, a_bm, a_fld, a_sfld, a_sfldAug, a_aug, a_test, a_tB, a_and, a_or, a_not, a_if, a_sl, a_noPart, a_part,
  a_for, a_iTup, a_iList, a_iStr, a_iRng1, a_iRng2, rng1, rng2, a_lc, a_yes, a_gTup, a_gCons, a_gNil, a_gSub, wipe, List.set_cons_zero, List.set_cons_succ,
  v0, v1, v2, v3, v4, v5, v6, v7, v8, v9, v10, n0, n1, n2, n3, n4, n5, n6, n7, n8, n9, n10, i_0, i_c, i_u, e_i, e_s, e_b, e_n, ne_i, ne_s, ne_b, tst, tsi, tss, tsr, Vl.s0, Vl.s1, Vl.s2, Vl.s3, Vl.s4, Vl.s5, List.map_cons, List.map_nil, List.length_cons, List.length_nil, List.replicate, List.cons_append, List.nil_append, Nat.reduceAdd, Nat.reduceSub, decide_eq_true_eq, ofS, String.reduceEq, decide_true, decide_false, Bool.false_eq_true, Bool.not_true, Bool.not_false, if_true, if_false])
section
variable {P : Program} {w : World} {K : PySem.W.Frag} {mg : Str → Option Value} {base : Heap}
theorem ok_read_content_packets (T : Txt K mg) : OkF P w K mg base CX0 "read_content_packets" 8 ["reading", "kind"] (Sp2 fun a b H Q _ => ∃ r lp L t, ∃ c : DCo, a = .ref r ∧ b = .str (Str.ofString c.kd) ∧ Rs K r lp L (c.e ++ t) H ∧ c.ok ∧ ∀ v H', Off (· = r) H H' → Rs K r lp L t H' → Dp K H' v c.d → Q v H') := by
  refine mkF T.d_read_content_packets T.g_read_content_packets sc_read_content_packets bw_read_content_packets (fun vs H Q E h => l2 h) (fun cdv A outer s H vs Q E hr h => ?_)
  obtain ⟨_, _, rfl, r, lp, L, t, c, rfl, rfl, R, ho, k⟩ := h
  refine ⟨_, PSs.nox ((pss_cons (ps_if (pt_cmpR op_eq (pv 1) pe_str (nomark _))
      (pss_one (ps_ret (fcall (ok_read_message_content T) (hr.mono (by decide)) pass0 (pa_cons (pv 0) pa_nil))))
      pss_nil)
    (pss_cons (ps_if (pt_cmpR op_eq (pv 1) pe_str (nomark _))
      (pss_cons (ps_set (i := 2) sc_read_content_packets.nd rfl (by first | exact Or.inl rfl | exact Or.inr rfl) (mcall0 (ok_Reading_reference T) (hr.mono (by decide)) pass0 (pv 0)))
    (pss_one (ps_ret (pe_tup (pa_cons (pv 1) (pa_cons (pv 2) (pa_cons (mcall0 (ok_Reading_weight T) (hr.mono (by decide)) pass0 (pv 0)) pa_nil)))))))
      pss_nil)
    (pss_cons (ps_if (pt_cmpR op_eq (pv 1) pe_str (nomark _))
      (pss_cons (ps_set (i := 3) sc_read_content_packets.nd rfl (by first | exact Or.inl rfl | exact Or.inr rfl) (mcall0 (ok_Reading_value T) (hr.mono (by decide)) pass0 (pv 0)))
    (pss_one (ps_ret (pe_tup (pa_cons (pv 1) (pa_cons (pv 3) (pa_cons (fcall (ok_read_weights T) (hr.mono (by decide)) pass0 (pa_cons (pv 0) (pa_cons (pe_tup (pa_cons (pv 3) pa_nil)) pa_nil))) pa_nil)))))))
      pss_nil)
    (pss_cons (ps_set (i := 4) sc_read_content_packets.nd rfl (by first | exact Or.inl rfl | exact Or.inr rfl) (mcall (ok_Reading_count T) (hr.mono (by decide)) pass0 (pv 0) (pa_cons pe_int (pa_cons (pgI T.c_NUMBER_MOST) pa_nil))))
    (pss_cons (ps_if (pt_cmpR op_in_seq (pv 1) (pe_tup (pa_cons pe_str (pa_cons pe_str pa_nil))) (by rfl))
      (pss_cons (ps_set (i := 3) sc_read_content_packets.nd rfl (by first | exact Or.inl rfl | exact Or.inr rfl) (mcall0 (ok_Reading_value T) (hr.mono (by decide)) pass0 (pv 0)))
    (pss_one (ps_ret (pe_tup (pa_cons (pv 1) (pa_cons (pv 4) (pa_cons (pv 3) (pa_cons (fcall (ok_read_weights T) (hr.mono (by decide)) pass0 (pa_cons (pv 0) (pa_cons (pe_tup (pa_cons (pv 3) pa_nil)) pa_nil))) pa_nil))))))))
      pss_nil)
    (pss_cons (ps_if (pt_cmpR op_in_seq (pv 1) (pe_tup (pa_cons pe_str (pa_cons pe_str pa_nil))) (by rfl))
      (pss_one (ps_ret (pe_tup (pa_cons (pv 1) (pa_cons (pv 4) (pa_cons (mcall (ok_Reading_text T) (hr.mono (by decide)) pass0 (pv 0) (pa_cons (pgI T.c_TEXT_MOST) pa_nil)) pa_nil))))))
      pss_nil)
    (pss_one (ps_ret (pe_tup (pa_cons (pv 1) (pa_cons (pv 4) (pa_cons (mcall0 (ok_Reading_weight T) (hr.mono (by decide)) pass0 (pv 0)) pa_nil))))))))))))), ?_⟩
  cases c with
  | message m tg wt q sh =>
    simp only [DCo.kd]
    walk_at "wp"
    exact rcall (DCo.message m tg wt q sh) R ⟨ho, rfl⟩ k
  | fulfill rr n x sh =>
    obtain ⟨⟨o1, o1b⟩, o2, o3⟩ := ho
    simp only [DCo.e, rowd, List.append_assoc] at R
    cases rr <;> (
      simp only [DCo.kd]
      walk_at "wp"
      refine R.m (ctcall n R (by omega) (by omega) (by omega) fun H1 f1 R1 => ?_)
      refine ⟨by decide, fun p np => in_yes [_, _] upd_same (by decide +kernel) ?_⟩
      have R1' := R1.new (o := .tup [.str "fulfill", .str "resolved"]) np
      have f1' := f1.new (o := .tup [.str "fulfill", .str "resolved"]) np
      walk_at "wp"
      refine R1'.m (rcall x R1' o2 fun v2 H2 f2 R2 d2 => ⟨by decide, fun p2 np2 => ?_⟩)
      have R3 := R2.new (o := .tup [v2]) np2
      have f3 := f2.new (o := .tup [v2]) np2
      have d2' := (SeqKeep.of (Same.new (o := .tup [v2]) np2)).dp d2
      refine ⟨r, lp, L, t, [x], sh, rfl, (by rw [rowd, List.append_assoc]; exact R3), dp_tup np2 (.cons d2 .nil), (by decide : 1 ≤ 4), (fun y hy => by rw [List.mem_singleton.mp hy]; exact o2), o3, fun v4 H4 f4 R4 d4 => ⟨by decide, fun p5 np5 => ?_⟩⟩
      exact k _ _ ((f1'.trans (f3.trans f4)).new np5) (R4.new np5) (dp_tup np5 (.cons (.str _) (.cons (.int _) (.cons ((Off.tup R3 f4).dp (nl_va _) d2') (.cons d4 .nil))))))
  | brk rr n ks =>
    obtain ⟨⟨o1, o1b⟩, o2, o3⟩ := ho
    simp only [DCo.e, List.append_assoc] at R
    cases rr <;> (
      simp only [DCo.kd]
      walk_at "wp"
      refine R.m (ctcall n R (by omega) (by omega) (by omega) fun H1 f1 R1 => ?_)
      refine ⟨by decide, fun p np => in_no [_, _] upd_same (by decide +kernel) ?_⟩
      have R1' := R1.new (o := .tup [.str "fulfill", .str "resolved"]) np
      have f1' := f1.new (o := .tup [.str "fulfill", .str "resolved"]) np
      walk_at "wp"
      refine ⟨by decide, fun p2 np2 => in_yes [_, _] upd_same (by decide +kernel) ?_⟩
      have R2 := R1'.new (o := .tup [.str "break", .str "resolved_broken"]) np2
      have f2 := f1'.new (o := .tup [.str "break", .str "resolved_broken"]) np2
      walk_at "wp"
      refine R2.m (rcall2 ks R2 ⟨o2, by omega, by omega⟩ fun v4 H4 f4 R4 d4 => ⟨by decide, fun p5 np5 => ?_⟩)
      exact k _ _ ((f2.trans f4).new np5) (R4.new np5) (dp_tup np5 (.cons (.str _) (.cons (.int _) (.cons d4 .nil)))))
  | subscribe n wt =>
    obtain ⟨⟨o1, o1b⟩, o2⟩ := ho
    simp only [DCo.e, List.append_assoc] at R
    simp only [DCo.kd]
    walk_at "wp"
    refine R.m (ctcall n R (by omega) (by omega) (by omega) fun H1 f1 R1 => ?_)
    refine ⟨by decide, fun p np => in_no [_, _] upd_same (by decide +kernel) ?_⟩
    have R1' := R1.new (o := .tup [.str "fulfill", .str "resolved"]) np
    have f1' := f1.new (o := .tup [.str "fulfill", .str "resolved"]) np
    walk_at "wp"
    refine ⟨by decide, fun p2 np2 => in_no [_, _] upd_same (by decide +kernel) ?_⟩
    have R2 := R1'.new (o := .tup [.str "break", .str "resolved_broken"]) np2
    have f2 := f1'.new (o := .tup [.str "break", .str "resolved_broken"]) np2
    walk_at "wp"
    refine R2.m (rcall wt R2 o2 fun v4 H4 f4 R4 d4 => ⟨by decide, fun p5 np5 => ?_⟩)
    exact k _ _ ((f2.trans f4).new np5) (R4.new np5) (dp_tup np5 (.cons (.str _) (.cons (.int _) (.cons d4 .nil))))
  | relans n wt =>
    obtain ⟨⟨o1, o1b⟩, o2⟩ := ho
    simp only [DCo.e, List.append_assoc] at R
    simp only [DCo.kd]
    walk_at "wp"
    refine R.m (ctcall n R (by omega) (by omega) (by omega) fun H1 f1 R1 => ?_)
    refine ⟨by decide, fun p np => in_no [_, _] upd_same (by decide +kernel) ?_⟩
    have R1' := R1.new (o := .tup [.str "fulfill", .str "resolved"]) np
    have f1' := f1.new (o := .tup [.str "fulfill", .str "resolved"]) np
    walk_at "wp"
    refine ⟨by decide, fun p2 np2 => in_no [_, _] upd_same (by decide +kernel) ?_⟩
    have R2 := R1'.new (o := .tup [.str "break", .str "resolved_broken"]) np2
    have f2 := f1'.new (o := .tup [.str "break", .str "resolved_broken"]) np2
    walk_at "wp"
    refine R2.m (rcall wt R2 o2 fun v4 H4 f4 R4 d4 => ⟨by decide, fun p5 np5 => ?_⟩)
    exact k _ _ ((f2.trans f4).new np5) (R4.new np5) (dp_tup np5 (.cons (.str _) (.cons (.int _) (.cons d4 .nil))))
  | release x wt =>
    obtain ⟨o1, o2⟩ := ho
    simp only [DCo.e, List.append_assoc] at R
    simp only [DCo.kd]
    walk_at "wp"
    refine R.m (rcall x R o1 fun v1 H1 f1 R1 d1 => ?_)
    refine R1.m (rcall wt R1 o2 fun v2 H2 f2 R2 d2 => ⟨by decide, fun p np => ?_⟩)
    exact k _ _ ((f1.trans f2).new np) (R2.new np) (dp_tup np (.cons (.str _) (.cons ((Off.tup R1 f2).dp (nl_ref _) d1) (.cons d2 .nil))))
  | transfer x sh =>
    obtain ⟨o2, o3⟩ := ho
    simp only [DCo.e, rowd, List.append_assoc] at R
    simp only [DCo.kd]
    walk_at "wp"
    refine R.m (rcall x R o2 fun v2 H2 f2 R2 d2 => ⟨by decide, fun p2 np2 => ?_⟩)
    have R3 := R2.new (o := .tup [v2]) np2
    have f3 := f2.new (o := .tup [v2]) np2
    have d2' := (SeqKeep.of (Same.new (o := .tup [v2]) np2)).dp d2
    refine ⟨r, lp, L, t, [x], sh, rfl, (by rw [rowd, List.append_assoc]; exact R3), dp_tup np2 (.cons d2 .nil), (by decide : 1 ≤ 4), (fun y hy => by rw [List.mem_singleton.mp hy]; exact o2), o3, fun v4 H4 f4 R4 d4 => ⟨by decide, fun p5 np5 => ?_⟩⟩
    exact k _ _ ((f3.trans f4).new np5) (R4.new np5) (dp_tup np5 (.cons (.str _) (.cons ((Off.tup R3 f4).dp (nl_va _) d2') (.cons d4 .nil))))
theorem ok_read_packet (T : Txt K mg) : OkF P w K mg base CX0 "read_packet" 9 ["numbers"] (Sp1 fun a H Q _ => ∃ lp, ∃ p : DPk, a = .ref lp ∧ H lp = some (.lst (vints p.e)) ∧ p.e.length ≤ 10000000 ∧ p.ok ∧ ∀ v H', Same H H' → Dp K H' v p.d → Q v H') := by
  refine mkF T.d_read_packet T.g_read_packet sc_read_packet bw_read_packet (fun vs H Q E h => l1 h) (fun cdv A outer s H vs Q E hr h => ?_)
  obtain ⟨_, rfl, lp, p, rfl, hp, hl, ho, k⟩ := h
  refine ⟨_, PSs.nox ((pss_cons (ps_set (i := 1) sc_read_packet.nd rfl (by first | exact Or.inl rfl | exact Or.inr rfl) (ccall (ok_Reading___init__ T) (hr.mono (by decide)) pass0 (pa_cons (pv 0) pa_nil)))
    (pss_cons (ps_expr (mcall (ok_Reading_count T) (hr.mono (by decide)) pass0 (pv 1) (pa_cons (pgI T.c_VERSION) (pa_cons (pgI T.c_VERSION) pa_nil))))
    (pss_cons (ps_set (i := 2) sc_read_packet.nd rfl (by first | exact Or.inl rfl | exact Or.inr rfl) (mcall (ok_Reading_count T) (hr.mono (by decide)) pass0 (pv 1) (pa_cons pe_int (pa_cons (pgI T.c_VAT_MOST) pa_nil))))
    (pss_cons (ps_set (i := 3) sc_read_packet.nd rfl (by first | exact Or.inl rfl | exact Or.inr rfl) (mcall (ok_Reading_count T) (hr.mono (by decide)) pass0 (pv 1) (pa_cons pe_int (pa_cons (pgI T.c_VAT_MOST) pa_nil))))
    (pss_cons (ps_set (i := 4) sc_read_packet.nd rfl (by first | exact Or.inl rfl | exact Or.inr rfl) (mcall (ok_Reading_count T) (hr.mono (by decide)) pass0 (pv 1) (pa_cons pe_int (pa_cons (pgI T.c_NUMBER_MOST) pa_nil))))
    (pss_cons (ps_set (i := 5) sc_read_packet.nd rfl (by first | exact Or.inl rfl | exact Or.inr rfl) (fcall (ok_read_content_packets T) (hr.mono (by decide)) pass0 (pa_cons (pv 1) (pa_cons (pe_ix ix_tup (pgR T.c_CONTENTS) (mcall (ok_Reading_count T) (hr.mono (by decide)) pass0 (pv 1) (pa_cons pe_int (pa_cons (pe_op op_sub (pe_callB call_len_seq (by rfl) T.n_len PySem.boot_len (pa_cons (pgR T.c_CONTENTS) pa_nil)) pe_int) pa_nil))) (fun _ _ => rfl)) pa_nil))))
    (pss_cons (ps_if (pt_cmpR op_ne (pe_fld (pv 1) rfl) (pe_callB call_len_seq (by rfl) T.n_len PySem.boot_len (pa_cons (pv 0) pa_nil)) (nomark _))
      (pss_one ps_never)
      pss_nil)
    (pss_one (ps_ret (pe_tup (pa_cons (pv 2) (pa_cons (pv 3) (pa_cons (pv 4) (pa_cons (pv 5) pa_nil))))))))))))))), ?_⟩
  walk_at "wp"
  refine fun x dx nx nd ne => ⟨x, lp, dx, p.e, rfl, rfl, upd_same, ?_, hl, fun H1 h1 R1 => ⟨True.intro, ?_⟩⟩
  · rw [upd_ne (fun c => by rw [c, nx] at hp; cases hp), upd_ne (fun c => by rw [c, nd] at hp; cases hp)]
    exact hp
  have s1 := Same.mk nx nd h1
  obtain ⟨⟨o1, o1b⟩, ⟨o2, o2b⟩, ⟨o3, o3b⟩, o4⟩ := ho
  obtain ⟨j, hj, hj8, hjc⟩ := co_kind p.c
  have R1' : Rs K x lp p.e (cntd 1 ++ (cntd p.s ++ (cntd p.r ++ (cntd p.n ++ (cntd j ++ (p.c.e ++ [])))))) H1 := by
    rw [cnt_small (n := j) (by omega), cnt_small (n := 1) (by decide), List.append_nil]
    have e : p.e = [((1 : Nat) : Int)] ++ (cntd p.s ++ (cntd p.r ++ (cntd p.n ++ ([(j : Int)] ++ p.c.e)))) := by
      rw [DPk.e, hj]
      simp only [List.append_assoc, List.cons_append, List.nil_append]
      rfl
    rw [← e]
    exact R1
  refine R1'.m (ctcall 1 R1' (by omega) (by omega) (by omega) fun H2 f2 R2 => ?_)
  refine R2.m (ctcall p.s R2 (by omega) (by omega) (by omega) fun H3 f3 R3 => ?_)
  refine R3.m (ctcall p.r R3 (by omega) (by omega) (by omega) fun H4 f4 R4 => ?_)
  refine R4.m (ctcall p.n R4 (by omega) (by omega) (by omega) fun H5 f5 R5 => ?_)
  have hT := sqT_strs (ys := conts) (T.t_CONTENTS H1)
  have f15 := f2.trans (f3.trans (f4.trans f5))
  have hT5 := (Off.tup R1' f15).sqT hT
  refine R5.m ⟨_, _, rfl, .inr hT5, ?_⟩
  refine ctcall j R5 (by omega) (show (j : Int) ≤ 8 by omega) (by omega) fun H6 f6 R6 => ?_
  refine ix_t ((Off.tup R5 f6).sqT hT5) (u := .str (Str.ofString p.c.kd)) (atI_nat (by rw [List.getElem?_map, hjc]; rfl)) ?_
  refine ⟨x, lp, p.e, [], p.c, rfl, rfl, R6, o4, fun v H7 f7 R7 d7 => ?_⟩
  obtain ⟨dx7, hx7⟩ := R7.2.1
  refine ⟨x, _, dx7, _, _, rfl, hx7, T.cl_Reading, T.na_Reading_at, rdF_at, lp, _, rfl, .inl (.of R7.2.2.1), ?_⟩
  rw [vlen]
  walk_at "wp"
  rw [if_neg (by rw [Nat.sub_zero, decide_eq_true rfl]; decide)]
  have s7 := Same.off s1 nx (f15.trans (f6.trans f7))
  exact ⟨by decide, fun p8 np8 => k _ _ (Same.put s7 (s7.free np8)) (dp_tup np8 (.cons (.int _) (.cons (.int _) (.cons (.int _) (.cons d7 .nil)))))⟩
theorem ok_read_program (T : Txt K mg) : OkF P w K mg base CX0 "read_program" 3 ["reading"] (spR K pS (fun ks => Tn ks ∧ ks.length ≤ 4000) eS) := by
  refine mkF T.d_read_program T.g_read_program sc_read_program bw_read_program (fun vs H Q E h => l1 h) (fun cdv A outer s H vs Q E hr h => ?_)
  obtain ⟨_, rfl, r, lp, L, t, ks, rfl, R, ⟨o1, o2⟩, k⟩ := h
  refine ⟨_, PSs.nox ((pss_cons (ps_set (i := 1) sc_read_program.nd rfl (by first | exact Or.inl rfl | exact Or.inr rfl) (mcall (ok_Reading_count T) (hr.mono (by decide)) pass0 (pv 0) (pa_cons pe_int (pa_cons (pgI T.c_PROGRAM_MOST) pa_nil))))
    (pss_cons (ps_set (i := 2) sc_read_program.nd rfl (by first | exact Or.inl rfl | exact Or.inr rfl) (pe_op op_add_str (pgS T.c_CHARACTERS) pe_str))
    (pss_one (ps_ret (pe_join pe_str (pe_lc (own := [("_", 3)]) (g := gName 3) (tt := tYes) rfl sc_read_program.nd (pi_range1 (by rfl) T.n_range (pa_cons (pv 1) pa_nil)) (blkOk_by (N := ["reading", "size", "signs", "_"]) (sc := defScope s_read_program) (by decide +kernel)) (fun _ _ _ _ _ => pg_name (i := 3) sc_read_program.nd rfl (Or.inl rfl)) (fun _ _ _ _ _ => pts_nil) (fun _ _ _ _ _ => (pe_ix ix_str (pv 2) (mcall (ok_Reading_count T) (hr.mono (by decide)) pass0 (pv 0) (pa_cons pe_int (pa_cons (pgI T.c_NEWLINE) pa_nil))) (fun _ _ => rfl)))))))))), ?_⟩
  walk_at "wp"
  rw [eS, List.append_assoc] at R
  refine R.m (ctcall ks.length R (by omega) (by omega) (by omega) fun H1 f1 R1 => ?_)
  refine ⟨_, _, rfl, rfl, by decide +kernel, ⟨_, rfl⟩, _, rfl, (rgb (by omega)).1, (rgb (by omega)).2, ?_⟩
  have e1 : ks.map nat = ks.flatMap cntd := by
    clear R k o2 R1
    induction ks with
    | nil => rfl
    | cons x ks ih =>
      rw [List.map_cons, List.flatMap_cons, ih fun k hk => o1 k (List.mem_cons_of_mem _ hk), cnt_small (Nat.lt_trans (o1 x List.mem_cons_self) (by decide))]
      rfl
  rw [e1] at R1
  rw [charsNl]
  refine lcR (D := fun k => .str ⟨#[sgAt k]⟩) ks R1 (by omega) (fun _ => rfl) (by omega) (fun N H2 x u i hx f2 R2 kN => ?_) fun D H2 ys n f2 R2 hD hA => ?_
  · walk_at "wp"
    have hx2 := o1 x hx
    exact ⟨trivial, R2.m (ctcall x R2 (by omega) (by omega) (by omega) fun H3 f3 R3 => ixc95 hx2 (kN _ _ f3 R3 (.str _)))⟩
  · refine ⟨_, D, ks.map fun k => ⟨#[sgAt k]⟩, rfl, rfl, .inl (sqL_signs hD hA), ?_, ?_⟩
    · rw [strs_len, List.length_map]
      show _ + _ * 0 ≤ _
      omega
    · rw [joinT]
      exact k _ _ (f1.trans f2) R2 (.str _)
theorem ok_read_values (T : Txt K mg) : OkF P w K mg base CX0 "read_values" 6 ["reading", "most"] (spR2 K (fun ws : List DVa => .tuple (ws.map DVa.d)) (fun m ws => (ws.length : Int) ≤ m ∧ ws.length ≤ 1000 ∧ ∀ x ∈ ws, x.ok) (rowd DVa.e)) := by
  refine mkF T.d_read_values T.g_read_values sc_read_values bw_read_values (fun vs H Q E h => l2 h) (fun cdv A outer s H vs Q E hr h => ?_)
  obtain ⟨_, _, rfl, r, lp, L, t, ws, m, rfl, rfl, R, ⟨o1, o2, o3⟩, k⟩ := h
  refine ⟨_, PSs.nox ((pss_cons (ps_set (i := 2) sc_read_values.nd rfl (by first | exact Or.inl rfl | exact Or.inr rfl) (mcall (ok_Reading_count T) (hr.mono (by decide)) pass0 (pv 0) (pa_cons pe_int (pa_cons (pv 1) pa_nil))))
    (pss_one (ps_ret (pe_callTy call_tuple_of (by rfl) T.n_tuple (by decide +kernel) (pa_cons (pe_lc (own := [("_", 3)]) (g := gName 3) (tt := tYes) rfl sc_read_values.nd (pi_range1 (by rfl) T.n_range (pa_cons (pv 2) pa_nil)) (blkOk_by (N := ["reading", "most", "size", "_"]) (sc := defScope s_read_values) (by decide +kernel)) (fun _ _ _ _ _ => pg_name (i := 3) sc_read_values.nd rfl (Or.inl rfl)) (fun _ _ _ _ _ => pts_nil) (fun _ _ _ _ _ => (mcall0 (ok_Reading_value T) (hr.mono (by decide)) pass0 (pv 0)))) pa_nil)))))), ?_⟩
  walk_at "wp"
  rw [rowd, List.append_assoc] at R
  refine R.m (ctcall ws.length R (by omega) (by omega) (by omega) fun H1 f1 R1 => ?_)
  refine ⟨_, rfl, (rgb (by omega)).1, (rgb (by omega)).2, ?_⟩
  refine lcR (D := DVa.d) ws R1 (by omega) nl_va (by omega) (fun N H6 x u i hx f6 R6 kN => ?_) fun D H6 zs n6 f6 R6 hD6 hA6 => ⟨D, zs, rfl, .inl ⟨.of hD6, fun l nl => k _ _ ((f1.trans f6).new nl) (R6.new nl) (dp_tup nl hA6)⟩⟩
  walk_at "wp"
  exact ⟨trivial, R6.m (rcall x R6 (o3 x hx) kN)⟩
theorem ok_read_content_journal (T : Txt K mg) : OkF P w K mg base CX0 "read_content_journal" 7 ["reading", "kind"] (Sp2 fun a b H Q _ => ∃ r lp L t, ∃ c : DEn, a = .ref r ∧ b = .str (Str.ofString c.kd) ∧ Rs K r lp L (c.c ++ t) H ∧ c.ok ∧ (∀ p, c ≠ .receive p) ∧ ∀ v H', Off (· = r) H H' → Rs K r lp L t H' → Dp K H' v c.d → Q v H') := by
  refine mkF T.d_read_content_journal T.g_read_content_journal sc_read_content_journal bw_read_content_journal (fun vs H Q E h => l2 h) (fun cdv A outer s H vs Q E hr h => ?_)
  obtain ⟨_, _, rfl, r, lp, L, t, c, rfl, rfl, R, ho, hnr, k⟩ := h
  refine ⟨_, PSs.nox ((pss_cons (ps_if (pt_cmpR op_eq (pv 1) pe_str (nomark _))
      (pss_cons (ps_set (i := 2) sc_read_content_journal.nd rfl (by first | exact Or.inl rfl | exact Or.inr rfl) (mcall (ok_Reading_count T) (hr.mono (by decide)) pass0 (pv 0) (pa_cons pe_int (pa_cons (pgI T.c_VAT_MOST) pa_nil))))
    (pss_one (ps_ret (pe_tup (pa_cons (pv 1) (pa_cons (pv 2) (pa_cons (fcall (ok_read_program T) (hr.mono (by decide)) pass0 (pa_cons (pv 0) pa_nil)) pa_nil)))))))
      pss_nil)
    (pss_cons (ps_if (pt_cmpR op_eq (pv 1) pe_str (nomark _))
      (pss_cons (ps_set (i := 3) sc_read_content_journal.nd rfl (by first | exact Or.inl rfl | exact Or.inr rfl) (fcall (ok_read_method T) (hr.mono (by decide)) pass0 (pa_cons (pv 0) pa_nil)))
    (pss_one (ps_ret (pe_tup (pa_cons (pv 1) (pa_cons (pv 3) (pa_cons (fcall (ok_read_values T) (hr.mono (by decide)) pass0 (pa_cons (pv 0) (pa_cons (pgI T.c_FIELDS_MOST) pa_nil))) pa_nil)))))))
      pss_nil)
    (pss_cons (ps_if (pt_cmpR op_eq (pv 1) pe_str (nomark _))
      (pss_cons (ps_set (i := 4) sc_read_content_journal.nd rfl (by first | exact Or.inl rfl | exact Or.inr rfl) (mcall0 (ok_Reading_reference T) (hr.mono (by decide)) pass0 (pv 0)))
    (pss_cons (ps_set (i := 5) sc_read_content_journal.nd rfl (by first | exact Or.inl rfl | exact Or.inr rfl) (fcall (ok_read_method T) (hr.mono (by decide)) pass0 (pa_cons (pv 0) pa_nil)))
    (pss_one (ps_ret (pe_tup (pa_cons (pv 1) (pa_cons (pv 4) (pa_cons (pv 5) (pa_cons (fcall (ok_read_values T) (hr.mono (by decide)) pass0 (pa_cons (pv 0) (pa_cons (pgI T.c_ARGUMENTS_MOST) pa_nil))) pa_nil)))))))))
      pss_nil)
    (pss_cons (ps_if (pt_cmpR op_eq (pv 1) pe_str (nomark _))
      (pss_cons (ps_set (i := 6) sc_read_content_journal.nd rfl (by first | exact Or.inl rfl | exact Or.inr rfl) (mcall (ok_Reading_count T) (hr.mono (by decide)) pass0 (pv 0) (pa_cons pe_int (pa_cons (pgI T.c_VAT_MOST) pa_nil))))
    (pss_one (ps_ret (pe_tup (pa_cons (pv 1) (pa_cons (pv 6) (pa_cons (mcall0 (ok_Reading_value T) (hr.mono (by decide)) pass0 (pv 0)) pa_nil)))))))
      pss_nil)
    (pss_cons (ps_if (pt_cmpR op_in_seq (pv 1) (pe_tup (pa_cons pe_str (pa_cons pe_str pa_nil))) (by rfl))
      (pss_one (ps_ret (pe_tup (pa_cons (pv 1) (pa_cons (mcall0 (ok_Reading_reference T) (hr.mono (by decide)) pass0 (pv 0)) pa_nil)))))
      pss_nil)
    (pss_cons (ps_if (pt_cmpR op_eq (pv 1) pe_str (nomark _))
      (pss_cons (ps_set (i := 7) sc_read_content_journal.nd rfl (by first | exact Or.inl rfl | exact Or.inr rfl) (mcall (ok_Reading_count T) (hr.mono (by decide)) pass0 (pv 0) (pa_cons pe_int (pa_cons (pgI T.c_SIZE_MOST) pa_nil))))
    (pss_one (ps_ret (pe_tup (pa_cons (pv 1) (pa_cons (pe_callTy call_tuple_of (by rfl) T.n_tuple (by decide +kernel) (pa_cons (pe_lc (own := [("_", 8)]) (g := gName 8) (tt := tYes) rfl sc_read_content_journal.nd (pi_range1 (by rfl) T.n_range (pa_cons (pv 7) pa_nil)) (blkOk_by (N := ["reading", "kind", "vat", "name", "target", "method", "receiver", "size", "_"]) (sc := defScope s_read_content_journal) (by decide +kernel)) (fun _ _ _ _ _ => pg_name (i := 8) sc_read_content_journal.nd rfl (Or.inl rfl)) (fun _ _ _ _ _ => pts_nil) (fun _ _ _ _ _ => (mcall0 (ok_Reading_reference T) (hr.mono (by decide)) pass0 (pv 0)))) pa_nil)) pa_nil))))))
      pss_nil)
    (pss_one (ps_ret (pe_tup (pa_cons (pv 1) pa_nil))))))))))), ?_⟩
  cases c with
  | start v ks =>
    obtain ⟨⟨o1, o1b⟩, o2, o3⟩ := ho
    simp only [DEn.c, List.append_assoc] at R
    simp only [DEn.kd]
    walk_at "wp"
    refine R.m (ctcall v R (by omega) (by omega) (by omega) fun H1 f1 R1 => ?_)
    refine rcall ks R1 ⟨o2, o3⟩ fun v2 H2 f2 R2 d2 => ⟨by decide, fun p np => ?_⟩
    exact k _ _ ((f1.trans f2).new np) (R2.new np) (dp_tup np (.cons (.str _) (.cons (.int _) (.cons d2 .nil))))
  | create nm vs =>
    obtain ⟨o1, o2, o3⟩ := ho
    simp only [DEn.c, List.append_assoc] at R
    simp only [DEn.kd]
    walk_at "wp"
    refine rcall nm R o1 fun v1 H1 f1 R1 d1 => ?_
    refine rcall2 vs R1 ⟨by omega, by omega, o3⟩ fun v2 H2 f2 R2 d2 => ⟨by decide, fun p np => ?_⟩
    exact k _ _ ((f1.trans f2).new np) (R2.new np) (dp_tup np (.cons (.str _) (.cons ((Off.tup R1 f2).dp rfl d1) (.cons d2 .nil))))
  | send x nm vs =>
    obtain ⟨o0, o1, o2, o3⟩ := ho
    simp only [DEn.c, List.append_assoc] at R
    simp only [DEn.kd]
    walk_at "wp"
    refine R.m (rcall x R o0 fun v0 H0 f0 R0 d0 => ?_)
    refine rcall nm R0 o1 fun v1 H1 f1 R1 d1 => ?_
    refine rcall2 vs R1 ⟨by omega, by omega, o3⟩ fun v2 H2 f2 R2 d2 => ⟨by decide, fun p np => ?_⟩
    exact k _ _ ((f0.trans (f1.trans f2)).new np) (R2.new np) (dp_tup np (.cons (.str _) (.cons ((Off.tup R0 (f1.trans f2)).dp (nl_ref _) d0) (.cons ((Off.tup R1 f2).dp rfl d1) (.cons d2 .nil)))))
  | transfer v x =>
    obtain ⟨⟨o1, o1b⟩, o2⟩ := ho
    simp only [DEn.c, List.append_assoc] at R
    simp only [DEn.kd]
    walk_at "wp"
    refine R.m (ctcall v R (by omega) (by omega) (by omega) fun H1 f1 R1 => ?_)
    refine R1.m (rcall x R1 o2 fun v2 H2 f2 R2 d2 => ⟨by decide, fun p np => ?_⟩)
    exact k _ _ ((f1.trans f2).new np) (R2.new np) (dp_tup np (.cons (.str _) (.cons (.int _) (.cons d2 .nil))))
  | take =>
    simp only [DEn.kd]
    walk_at "wp"
    refine ⟨by decide, fun p np => in_no [_, _] upd_same (by decide +kernel) ?_⟩
    have R1 := R.new (o := .tup [.str "pin", .str "release"]) np
    have f1 := (Off.refl (S := (· = r)) (H := H)).new (o := .tup [.str "pin", .str "release"]) np
    walk_at "wp"
    exact ⟨by decide, fun p2 np2 => k _ _ (f1.new np2) (R1.new np2) (dp_tup np2 (.cons (.str _) .nil))⟩
  | turn =>
    simp only [DEn.kd]
    walk_at "wp"
    refine ⟨by decide, fun p np => in_no [_, _] upd_same (by decide +kernel) ?_⟩
    have R1 := R.new (o := .tup [.str "pin", .str "release"]) np
    have f1 := (Off.refl (S := (· = r)) (H := H)).new (o := .tup [.str "pin", .str "release"]) np
    walk_at "wp"
    exact ⟨by decide, fun p2 np2 => k _ _ (f1.new np2) (R1.new np2) (dp_tup np2 (.cons (.str _) .nil))⟩
  | collect =>
    simp only [DEn.kd]
    walk_at "wp"
    refine ⟨by decide, fun p np => in_no [_, _] upd_same (by decide +kernel) ?_⟩
    have R1 := R.new (o := .tup [.str "pin", .str "release"]) np
    have f1 := (Off.refl (S := (· = r)) (H := H)).new (o := .tup [.str "pin", .str "release"]) np
    walk_at "wp"
    exact ⟨by decide, fun p2 np2 => k _ _ (f1.new np2) (R1.new np2) (dp_tup np2 (.cons (.str _) .nil))⟩
  | pin x =>
    simp only [DEn.kd]
    walk_at "wp"
    refine ⟨by decide, fun p np => in_yes [_, _] upd_same (by decide +kernel) ?_⟩
    have R1 := R.new (o := .tup [.str "pin", .str "release"]) np
    have f1 := (Off.refl (S := (· = r)) (H := H)).new (o := .tup [.str "pin", .str "release"]) np
    walk_at "wp"
    refine R1.m (rcall x R1 ho fun v2 H2 f2 R2 d2 => ⟨by decide, fun p np => ?_⟩)
    exact k _ _ ((f1.trans f2).new np) (R2.new np) (dp_tup np (.cons (.str _) (.cons d2 .nil)))
  | release x =>
    simp only [DEn.kd]
    walk_at "wp"
    refine ⟨by decide, fun p np => in_yes [_, _] upd_same (by decide +kernel) ?_⟩
    have R1 := R.new (o := .tup [.str "pin", .str "release"]) np
    have f1 := (Off.refl (S := (· = r)) (H := H)).new (o := .tup [.str "pin", .str "release"]) np
    walk_at "wp"
    refine R1.m (rcall x R1 ho fun v2 H2 f2 R2 d2 => ⟨by decide, fun p np => ?_⟩)
    exact k _ _ ((f1.trans f2).new np) (R2.new np) (dp_tup np (.cons (.str _) (.cons d2 .nil)))
  | receive p => exact absurd rfl (hnr p)
  | drop rs =>
    obtain ⟨o1, o2⟩ := ho
    simp only [DEn.c, rowd, List.append_assoc] at R
    simp only [DEn.kd]
    walk_at "wp"
    refine ⟨by decide, fun p np => in_no [_, _] upd_same (by decide +kernel) ?_⟩
    have R1 := R.new (o := .tup [.str "pin", .str "release"]) np
    have f1 := (Off.refl (S := (· = r)) (H := H)).new (o := .tup [.str "pin", .str "release"]) np
    walk_at "wp"
    refine R1.m (ctcall rs.length R1 (by omega) (by omega) (by omega) fun H2 f2 R2 => ?_)
    refine ⟨_, rfl, (rgb (by omega)).1, (rgb (by omega)).2, ?_⟩
    refine lcR (D := DRef.d) rs R2 (by omega) nl_ref (by omega) (fun N H6 x u i hx f6 R6 kN => ?_) fun D H6 zs n6 f6 R6 hD6 hA6 => ⟨D, zs, rfl, .inl ⟨.of hD6, fun l nl => ⟨by decide, fun p2 np2 => ?_⟩⟩⟩
    · walk_at "wp"
      exact ⟨trivial, R6.m (rcall x R6 (o2 x hx) kN)⟩
    have d6 := dp_tup nl hA6
    exact k _ _ (((f1.trans (f2.trans f6)).new nl).new np2) ((R6.new nl).new np2) (dp_tup np2 (.cons (.str _) (.cons d6 .nil)))
theorem ok_read_entry (T : Txt K mg) : OkF P w K mg base CX0 "read_entry" 10 ["numbers"] (Sp1 fun a H Q _ => ∃ lp, ∃ c : DEn, a = .ref lp ∧ H lp = some (.lst (vints (c.k :: c.c))) ∧ (c.k :: c.c).length ≤ 1000000 ∧ c.ok ∧ ∀ v H', Same H H' → Dp K H' v c.d → Q v H') := by
  refine mkF T.d_read_entry T.g_read_entry sc_read_entry bw_read_entry (fun vs H Q E h => l1 h) (fun cdv A outer s H vs Q E hr h => ?_)
  obtain ⟨_, rfl, lp, c, rfl, hp, hl, ho, k⟩ := h
  refine ⟨_, PSs.nox ((pss_cons (ps_set (i := 1) sc_read_entry.nd rfl (by first | exact Or.inl rfl | exact Or.inr rfl) (ccall (ok_Reading___init__ T) (hr.mono (by decide)) pass0 (pa_cons (pv 0) pa_nil)))
    (pss_cons (ps_set (i := 2) sc_read_entry.nd rfl (by first | exact Or.inl rfl | exact Or.inr rfl) (pe_ix ix_tup (pgR T.c_KINDS_journal) (mcall (ok_Reading_count T) (hr.mono (by decide)) pass0 (pv 1) (pa_cons pe_int (pa_cons (pe_op op_sub (pe_callB call_len_seq (by rfl) T.n_len PySem.boot_len (pa_cons (pgR T.c_KINDS_journal) pa_nil)) pe_int) pa_nil))) (fun _ _ => rfl)))
    (pss_cons (ps_if (pt_cmpR op_eq (pv 2) pe_str (nomark _))
      (pss_one (ps_ret (pe_tup (pa_cons (pv 2) (pa_cons (fcall (ok_read_packet T) (hr.mono (by decide)) pass0 (pa_cons (pe_slice sl_list (pv 0) (po_some pe_int) po_none) pa_nil)) pa_nil)))))
      pss_nil)
    (pss_cons (ps_set (i := 3) sc_read_entry.nd rfl (by first | exact Or.inl rfl | exact Or.inr rfl) (fcall (ok_read_content_journal T) (hr.mono (by decide)) pass0 (pa_cons (pv 1) (pa_cons (pv 2) pa_nil))))
    (pss_cons (ps_if (pt_cmpR op_ne (pe_fld (pv 1) rfl) (pe_callB call_len_seq (by rfl) T.n_len PySem.boot_len (pa_cons (pv 0) pa_nil)) (nomark _))
      (pss_one ps_never)
      pss_nil)
    (pss_one (ps_ret (pv 3))))))))), ?_⟩
  walk_at "wp"
  refine fun x dx nx nd ne => ⟨x, lp, dx, c.k :: c.c, rfl, rfl, upd_same, ?_, (by omega), fun H1 h1 R1 => ⟨True.intro, ?_⟩⟩
  · rw [upd_ne (fun c => by rw [c, nx] at hp; cases hp), upd_ne (fun c => by rw [c, nd] at hp; cases hp)]
    exact hp
  have s1 := Same.mk nx nd h1
  obtain ⟨j, hj, hj10, hjc⟩ := en_kind c
  have R1' : Rs K x lp (c.k :: c.c) (cntd j ++ (c.c ++ [])) H1 := by
    rw [cnt_small (n := j) (by omega), List.append_nil]
    have e : c.k :: c.c = [(j : Int)] ++ c.c := by
      rw [hj]
      rfl
    rw [← e]
    exact R1
  have hT := sqT_strs (ys := kinds) (T.t_KINDS_journal H1)
  refine R1'.m ⟨_, _, rfl, .inr hT, ?_⟩
  refine ctcall j R1' (by omega) (show (j : Int) ≤ 10 by omega) (by omega) fun H6 f6 R6 => ?_
  refine ix_t ((Off.tup R1' f6).sqT hT) (u := .str (Str.ofString c.kd)) (atI_nat (by rw [List.getElem?_map, hjc]; rfl)) ?_
  by_cases hr : ∃ p, c = .receive p
  · obtain ⟨p, rfl⟩ := hr
    simp only [DEn.kd]
    walk_at "wp"
    have hl6 := R6.2.2.1
    refine ⟨lp, _, rfl, .of hl6, fun q nq => ?_⟩
    rw [show vints ((DEn.receive p).k :: (DEn.receive p).c) = V.int 9 :: vints p.e from rfl, cut1]
    have s6 := Same.off s1 nx f6
    have sq := Same.put (o := .lst (vints p.e)) s6 (s6.free nq)
    refine ⟨q, p, rfl, upd_same, ?_, ho, fun v H7 s7 d7 => ⟨by decide, fun p8 np8 => ?_⟩⟩
    · have : (DEn.receive p).c.length = p.e.length := rfl
      rw [List.length_cons] at hl
      omega
    · have s8 := sq.trans s7
      exact k _ _ (Same.put s8 (s8.free np8)) (dp_tup np8 (.cons (.str _) (.cons d7 .nil)))
  · have n1 : ¬ Str.ofString c.kd = Str.ofString "receive" := by
      cases c with
      | receive p => exact absurd ⟨p, rfl⟩ hr
      | _ => simp only [DEn.kd]; decide +kernel
    walk_at "wp"
    rw [if_neg (by rw [← ofS]; exact n1)]
    refine ⟨x, lp, _, [], c, rfl, rfl, R6, ho, fun p e => hr ⟨p, e⟩, fun v H7 f7 R7 d7 => ?_⟩
    obtain ⟨dx7, hx7⟩ := R7.2.1
    refine ⟨x, _, dx7, _, _, rfl, hx7, T.cl_Reading, T.na_Reading_at, rdF_at, lp, _, rfl, .inl (.of R7.2.2.1), ?_⟩
    rw [vlen]
    walk_at "wp"
    rw [if_neg (by rw [Nat.sub_zero, decide_eq_true rfl]; decide)]
    exact k _ _ (Same.off s1 nx (f6.trans f7)) d7
end
end Kt
set_option Elab.async false
set_option linter.all false
set_option maxRecDepth 100000
set_option maxHeartbeats 4000000
namespace Kt
open PySem PySem.Spec PyProof.Rows L2 Vl
local macro_rules | `(tactic| walk_at "wp") => `(tactic| simp only [L2.start, cxK, a_seq, a_next, a_asg, a_ret, a_retN, a_drop, a_ifS, a_break, a_cont, a_c, a_op, a_un, a_nil, a_cons, a_tup, a_lst, a_call, a_meth, a_make, a_cb, a_bm0, a_m1, a_bm, a_fld, a_sfld, a_sfldAug, a_aug, a_test, a_tB, a_and, a_or, a_not, a_if, a_sl, a_noPart, a_part,
  a_for, a_iTup, a_iList, a_iStr, a_iRng1, a_iRng2, rng1, rng2, a_lc, a_yes, a_gTup, a_gCons, a_gNil, a_gSub, wipe, List.set_cons_zero, List.set_cons_succ,
  v0, v1, v2, v3, v4, v5, v6, v7, v8, v9, v10, n0, n1, n2, n3, n4, n5, n6, n7, n8, n9, n10, i_0, i_c, i_u, e_i, e_s, e_b, e_n, ne_i, ne_s, ne_b, tst, tsi, tss, tsr, Vl.s0, Vl.s1, Vl.s2, Vl.s3, Vl.s4, Vl.s5, List.map_cons, List.map_nil, List.length_cons, List.length_nil, List.replicate, List.cons_append, List.nil_append, Nat.reduceAdd, Nat.reduceSub, decide_eq_true_eq, ofS, String.reduceEq, decide_true, decide_false, Bool.false_eq_true, Bool.not_true, Bool.not_false, if_true, if_false])
local macro_rules | `(tactic| walk_at "wk") => `(tactic| simp only [L2.start, cxK, a_seq, a_next, a_asg, a_ret, a_retN, a_drop, a_ifS, a_break, a_cont, a_c, q_eq, q_ne, q_in, q_ix, q_i0, q_iC, a_un, a_nil, a_cons, a_tup, a_meth, a_make, a_cb, a_bm0, a_m1, a_bm, a_fld, a_sfld, a_sfldAug, a_aug, a_test, a_tB, a_and, a_or, a_not, a_if, a_sl, a_noPart, a_part,
  a_for, a_iTup, a_iList, a_iStr, a_iRng1, a_iRng2, rng1, rng2, a_lc, a_yes, a_gTup, a_gCons, a_gNil, a_gSub, wipe, List.set_cons_zero, List.set_cons_succ,
  v0, v1, v2, v3, v4, v5, v6, v7, v8, v9, v10, n0, n1, n2, n3, n4, n5, n6, n7, n8, n9, n10, i_0, i_c, i_u, e_i, e_s, e_b, e_n, ne_i, ne_s, ne_b, tst, tsi, tss, tsr, Vl.s0, Vl.s1, Vl.s2, Vl.s3, Vl.s4, Vl.s5, List.map_cons, List.map_nil, List.length_cons, List.length_nil, List.replicate, List.cons_append, List.nil_append, Nat.reduceAdd, Nat.reduceSub, decide_eq_true_eq, ofS, String.reduceEq, decide_true, decide_false, Bool.false_eq_true, Bool.not_true, Bool.not_false, if_true, if_false])
section
variable {P : Program} {w : World} {K : PySem.W.Frag} {mg : Str → Option Value} {base : Heap}
theorem ok__law_cell (T : Txt K mg) : OkF P w K mg base CX0 "_law_cell" 1 ["script", "k"] (Sp2 fun a m H Q _ => ∃ sl, ∃ l : List Int, ∃ i : Nat, a = .ref sl ∧ m = .int i ∧ SqL K H sl (vints l) ∧ l.length ≤ 63 ∧ ∀ z : Int, Q (.int z) H) := by
  refine mkF T.d__law_cell T.g__law_cell sc__law_cell bw__law_cell (fun vs H Q E h => l2 h) (fun cdv A outer s H vs Q E hr h => ?_)
  obtain ⟨_, _, rfl, sl, l, i, rfl, rfl, hs, hl, k⟩ := h
  refine ⟨_, PSs.nox ((pss_cons (ps_if (pt_cmpR op_lt (pv 1) (pe_callB call_len_seq (by rfl) T.n_len PySem.boot_len (pa_cons (pv 0) pa_nil)) (nomark _))
      (pss_one (ps_ret (pe_ix ix_list (pv 0) (pv 1) (fun _ _ => rfl))))
      pss_nil)
    (pss_one (ps_ret pe_int)))), ?_⟩
  walk_at "wp"
  refine ⟨sl, _, rfl, .inl hs, ?_⟩
  rw [vlen]
  split
  · rename_i c
    have hi : i < l.length := by omega
    exact ix_l hs (u := .int l[i]) (atI_nat (by unfold vints; rw [List.getElem?_map, List.getElem?_eq_getElem hi]; rfl)) (k _)
  · exact k _
theorem ok__law_digits (T : Txt K mg) : OkF P w K mg base CX0 "_law_digits" 2 ["script", "first", "last"] (Sp3 fun a m n H Q _ => ∃ sl, ∃ l : List Int, a = .ref sl ∧ m = .int 0 ∧ n = .int 63 ∧ SqL K H sl (vints l) ∧ l.length ≤ 63 ∧ ∀ p H' dg, Same H H' → H p = none → H' p = some (.lst (vints dg)) → Q (.ref p) H') := by
  refine mkF T.d__law_digits T.g__law_digits sc__law_digits bw__law_digits (fun vs H Q E h => l3 h) (fun cdv A outer s H vs Q E hr h => ?_)
  obtain ⟨_, _, _, rfl, sl, l, rfl, rfl, rfl, hs, hl, k⟩ := h
  refine ⟨_, PSs.nox ((pss_cons (ps_set (i := 3) sc__law_digits.nd rfl (by first | exact Or.inl rfl | exact Or.inr rfl) (pe_lst pa_nil))
    (pss_cons (ps_for PassesOwn.never rfl (pi_range2 (by rfl) T.n_range (pa_cons (pv 1) (pa_cons (pv 2) pa_nil))) (pg_name (i := 4) sc__law_digits.nd rfl (by first | exact Or.inl rfl | exact Or.inr rfl))
      (pss_cons (ps_set (i := 5) sc__law_digits.nd rfl (by first | exact Or.inl rfl | exact Or.inr rfl) (fcall (ok__law_cell T) (hr.mono (by decide)) pass0 (pa_cons (pv 0) (pa_cons (pv 4) pa_nil))))
    (pss_cons (ps_if (pt_cmpR op_lt (pv 5) pe_int (nomark _))
      (pss_one (ps_set (i := 5) sc__law_digits.nd rfl (by first | exact Or.inl rfl | exact Or.inr rfl) (pe_op op_sub pe_int (pe_op op_mul pe_int (pv 5)))))
      pss_nil)
    (pss_one (ps_if (pt_cmpR op_ge (pv 5) (pe_op op_pow pe_int pe_int) (nomark _))
      (pss_one (ps_for PassesOwn.never rfl (pi_range1 (by rfl) T.n_range (pa_cons pe_int pa_nil)) (pg_name (i := 6) sc__law_digits.nd rfl (by first | exact Or.inl rfl | exact Or.inr rfl))
      (pss_one (ps_if (pt_cmpR op_gt (pv 5) pe_int (nomark _))
      (pss_cons (ps_expr (pe_bm PySem.F.plainAttrs_list PySem.F.slot_list_append PySem.F.type_list_append mt_append (pv 3) (pa_cons (pe_op op_mod (pe_callTy call_int1 (by rfl) T.n_int (by decide +kernel) (pa_cons (pv 5) pa_nil)) pe_int) pa_nil)))
    (pss_one (ps_set (i := 5) sc__law_digits.nd rfl (by first | exact Or.inl rfl | exact Or.inr rfl) (pe_op op_fdiv (pv 5) pe_int))))
      pss_nil))))
      (pss_cons (ps_set (i := 7) sc__law_digits.nd rfl (by first | exact Or.inl rfl | exact Or.inr rfl) (pe_op op_mod (pe_callTy call_int1 (by rfl) T.n_int (by decide +kernel) (pa_cons (pe_op op_add (pe_op op_add (pe_op op_mul (pv 5) pe_int) (pe_op op_mul (pv 4) pe_int)) pe_int) pa_nil)) pe_int))
    (pss_one (ps_for PassesOwn.never rfl (pi_range1 (by rfl) T.n_range (pa_cons pe_int pa_nil)) (pg_name (i := 6) sc__law_digits.nd rfl (by first | exact Or.inl rfl | exact Or.inr rfl))
      (pss_cons (ps_set (i := 7) sc__law_digits.nd rfl (by first | exact Or.inl rfl | exact Or.inr rfl) (pe_op op_mod (pe_callTy call_int1 (by rfl) T.n_int (by decide +kernel) (pa_cons (pe_op op_add (pe_op op_add (pe_op op_mul (pv 7) pe_int) (pe_op op_mul pe_int (pv 6))) pe_int) pa_nil)) pe_int))
    (pss_one (ps_expr (pe_bm PySem.F.plainAttrs_list PySem.F.slot_list_append PySem.F.type_list_append mt_append (pv 3) (pa_cons (pe_op op_mod (pe_callTy call_int1 (by rfl) T.n_int (by decide +kernel) (pa_cons (pe_op op_fdiv (pv 7) pe_int) pa_nil)) pe_int) pa_nil)))))))))))))
    (pss_one (ps_ret (pv 3)))))), ?_⟩
  walk_at "wp"
  refine ⟨by decide, fun p np => ⟨_, _, rfl, ⟨by decide, by decide, by decide, by decide⟩, ?_⟩⟩
  refine forN (fun i σ H2 => ∃ y4 y5 y6 y7, ∃ dg : List Int, σ = [some (.ref sl), some (.int 0), some (.int 63), some (.ref p), y4, y5, y6, y7] ∧ H2 p = some (.lst (vints dg)) ∧ dg.length ≤ 60 * i ∧ Same H H2) ⟨_, _, _, _, [], rfl, upd_same, Nat.le_refl _, Same.new np⟩ ?_ ?_
  · rintro i σ H2 hi ⟨y4, y5, y6, y7, dg, rfl, hp, hz, s2⟩
    have hi63 : i < 63 := hi
    walk_at "wp"
    refine ⟨sl, l, i, rfl, by rw [Int.zero_add], (SeqKeep.of s2).sqL hs, hl, fun z => ?_⟩
    have loop60 : ∀ (D : Ends) z y6 y7, (∀ z' y6' dg' H', H' p = some (.lst (vints dg')) → dg'.length ≤ 60 * (i + 1) → Same H H' → D.nx [some (.ref sl), some (.int 0), some (.int 63), some (.ref p), some (.int (0 + (i : Int))), some (.int z'), y6', y7] H') →
        ForR (Itr 0 60) (gName 6) (tIfS (tTest (tOp (rI0 fun i j => V.bl (decide (j < i))) (tVar 5) (tC (V.int 0)))) (tSeq (tDrop (tBM K "list" rAppend (tVar 3) (tCons (tOp (rI (fun x j => 0 < j) fun i j => V.int (i % j))
          (tCB (fun xs H Q => (∃ i, xs = [V.int i] ∧ Q (V.int i) H) ∨ ∃ k, xs = [V.bl k] ∧ Q (V.int (if k = true then 1 else 0)) H) (tCons (tVar 5) tNil)) (tC (V.int 1000))) tNil))) (tAsg (tOp (rI CDiv fun i j => V.int (i / j)) (tVar 5) (tC (V.int 1000))) (gName 5))) tNext)
          D [some (.ref sl), some (.int 0), some (.int 63), some (.ref p), some (.int (0 + (i : Int))), some (.int z), y6, y7] H2 := fun D z y6 y7 kD => by
      refine forN (fun j σ H3 => ∃ z' y6' dg', σ = [some (.ref sl), some (.int 0), some (.int 63), some (.ref p), some (.int (0 + (i : Int))), some (.int z'), y6', y7] ∧ H3 p = some (.lst (vints dg')) ∧ dg'.length ≤ 60 * i + j ∧ Same H H3) ⟨z, y6, dg, rfl, hp, hz, s2⟩ ?_ ?_
      · rintro j σ H3 hj ⟨z', y6', dg', rfl, hp3, hz3, s3⟩
        walk_at "wp"
        split
        · exact ⟨ty_lst (.of hp3), .inl ⟨_, rfl, by decide, appw hp3 (by omega) ⟨⟨by decide, by decide⟩, _, _, _, rfl, upd_same, by rw [List.length_append, List.length_singleton]; omega, Same.put s3 np⟩⟩⟩
        · exact ⟨_, _, _, rfl, hp3, by omega, s3⟩
      · rintro σ H3 ⟨z', y6', dg', rfl, hp3, hz3, s3⟩
        exact kD _ _ _ _ hp3 (by omega) s3
    split
    · refine ⟨.inl (by decide), ⟨by decide, by decide, by decide⟩, ?_⟩
      split
      · exact ⟨_, rfl, by decide, by decide, loop60 _ _ _ _ fun z' y6' dg' H' h1 h2 h3 => ⟨_, _, _, _, dg', rfl, h1, h2, h3⟩⟩
      · refine ⟨.inr (by decide), .inr (by decide), .inl ⟨_, rfl, by decide, _, rfl, by decide, by decide, ?_⟩⟩
        refine forN (fun j σ H3 => ∃ zz s7 : Int, ∃ y6' dg', σ = [some (.ref sl), some (.int 0), some (.int 63), some (.ref p), some (.int (0 + (i : Int))), some (.int zz), y6', some (.int s7)] ∧ H3 p = some (.lst (vints dg')) ∧ dg'.length ≤ 60 * i + j ∧ Same H H3) ⟨_, _, _, dg, rfl, hp, hz, s2⟩ ?_ ?_
        · rintro j σ H3 hj ⟨zz, s7, y6', dg', rfl, hp3, hz3, s3⟩
          walk_at "wp"
          refine ⟨.inr (by decide), .inl (by decide), .inl ⟨_, rfl, by decide, ty_lst (.of hp3), ⟨by decide, by decide⟩, .inl ⟨_, rfl, by decide, appw hp3 (by omega) ⟨_, _, _, _, rfl, upd_same, by rw [List.length_append, List.length_singleton]; omega, Same.put s3 np⟩⟩⟩⟩
        · rintro σ H3 ⟨zz, s7, y6', dg', rfl, hp3, hz3, s3⟩
          have hz4 : dg'.length ≤ 60 * i + 12 := hz3
          exact ⟨_, _, _, _, _, rfl, hp3, by omega, s3⟩
    · refine ⟨⟨by decide, by decide, by decide⟩, ?_⟩
      split
      · exact ⟨_, rfl, by decide, by decide, loop60 _ _ _ _ fun z' y6' dg' H' h1 h2 h3 => ⟨_, _, _, _, dg', rfl, h1, h2, h3⟩⟩
      · refine ⟨.inr (by decide), .inr (by decide), .inl ⟨_, rfl, by decide, _, rfl, by decide, by decide, ?_⟩⟩
        refine forN (fun j σ H3 => ∃ zz s7 : Int, ∃ y6' dg', σ = [some (.ref sl), some (.int 0), some (.int 63), some (.ref p), some (.int (0 + (i : Int))), some (.int zz), y6', some (.int s7)] ∧ H3 p = some (.lst (vints dg')) ∧ dg'.length ≤ 60 * i + j ∧ Same H H3) ⟨_, _, _, dg, rfl, hp, hz, s2⟩ ?_ ?_
        · rintro j σ H3 hj ⟨zz, s7, y6', dg', rfl, hp3, hz3, s3⟩
          walk_at "wp"
          refine ⟨.inr (by decide), .inl (by decide), .inl ⟨_, rfl, by decide, ty_lst (.of hp3), ⟨by decide, by decide⟩, .inl ⟨_, rfl, by decide, appw hp3 (by omega) ⟨_, _, _, _, rfl, upd_same, by rw [List.length_append, List.length_singleton]; omega, Same.put s3 np⟩⟩⟩⟩
        · rintro σ H3 ⟨zz, s7, y6', dg', rfl, hp3, hz3, s3⟩
          have hz4 : dg'.length ≤ 60 * i + 12 := hz3
          exact ⟨_, _, _, _, _, rfl, hp3, by omega, s3⟩
  · rintro σ H2 ⟨y4, y5, y6, y7, dg, rfl, hp, hz, s2⟩
    walk_at "wp"
    exact k _ _ _ s2 np hp
theorem ok__law_draw (T : Txt K mg) : OkF P w K mg base CX0 "_law_draw" 1 ["box", "many"] (spDr K) := by
  refine mkF T.d__law_draw T.g__law_draw sc__law_draw bw__law_draw (fun vs H Q E h => l2 h) (fun cdv A outer s H vs Q E hr h => ?_)
  obtain ⟨_, _, rfl, b, dl, n, rfl, rfl, hn, B, k⟩ := h
  refine ⟨_, PSs.nox ((pss_cons (ps_set (i := 2) sc__law_draw.nd rfl (by first | exact Or.inl rfl | exact Or.inr rfl) (pe_ix ix_list (pv 0) pe_int (fun _ _ => rfl)))
    (pss_cons (ps_asg (pe_op op_add (pv 2) pe_int) (pg_sub (pv 0) pe_int set_list))
    (pss_cons (ps_if (pt_cmpR op_lt (pv 2) (pe_callB call_len_seq (by rfl) T.n_len PySem.boot_len (pa_cons (pe_ix ix_list (pv 0) pe_int (fun _ _ => rfl)) pa_nil)) (nomark _))
      (pss_one (ps_ret (pe_op op_mod (pe_callTy call_int1 (by rfl) T.n_int (by decide +kernel) (pa_cons (pe_ix ix_list (pe_ix ix_list (pv 0) pe_int (fun _ _ => rfl)) (pv 2) (fun _ _ => rfl)) pa_nil)) (pv 1))))
      pss_nil)
    (pss_one (ps_ret (pe_op op_mod (pe_callTy call_int1 (by rfl) T.n_int (by decide +kernel) (pa_cons (pe_op op_add (pe_op op_mul (pv 2) pe_int) pe_int) pa_nil)) (pv 1)))))))), ?_⟩
  have B0 := B
  obtain ⟨ne, dg, p, hb, hd⟩ := B
  walk_at "wp"
  refine ix_l (.of hb) rfl ?_
  walk_at "wp"
  refine ⟨b, _, 1, 1, rfl, rfl, hb, rfl, ?_⟩
  have o1 : Off (· = b) H (upd H b (.lst [.ref dl, .int ((p : Int) + 1)])) := fun c o q e => by
    rw [upd_ne q]
    exact e
  have hd1 : (upd H b (.lst [.ref dl, .int ((p : Int) + 1)])) dl = some (.lst (vints dg)) := by
    rw [upd_ne (Ne.symm ne)]
    exact hd
  have B1 : Bb b dl (upd H b (.lst [.ref dl, .int ((p : Int) + 1)])) := ⟨ne, dg, p + 1, upd_same, hd1⟩
  have fin : ∀ i : Int, Q (.int (i % (n : Int))) (upd H b (.lst [.ref dl, .int ((p : Int) + 1)])) := fun i => by
    have h0 : 0 ≤ i % (n : Int) := Int.emod_nonneg _ (by omega)
    have h1 : i % (n : Int) < n := Int.emod_lt_of_pos _ (by omega)
    have := k _ (i % (n : Int)).toNat o1 B1 (by omega)
    rw [Int.toNat_of_nonneg h0] at this
    exact this
  refine ix_l (.of upd_same) rfl ⟨dl, _, rfl, .inl (.of hd1), ?_⟩
  rw [vlen]
  split
  · rename_i c
    have hi : p < dg.length := by omega
    refine ix_l (.of upd_same) rfl (ix_l (.of hd1) (u := .int dg[p]) (atI_nat (by unfold vints; rw [List.getElem?_map, List.getElem?_eq_getElem hi]; rfl)) (.inl ⟨_, rfl, by omega, fin _⟩))
  · exact ⟨.inr (by decide), .inl ⟨_, rfl, by omega, fin _⟩⟩
end
end Kt
set_option Elab.async false
set_option linter.all false
set_option maxRecDepth 100000
set_option maxHeartbeats 4000000
namespace Kt
open PySem PySem.Spec PyProof.Rows L2 Vl
local macro_rules | `(tactic| walk_at "wp") => `(tactic| simp only [L2.start, cxK, a_seq, a_next, a_asg, a_ret, a_retN, a_drop, a_ifS, a_break, a_cont, a_c, a_op, a_un, a_nil, a_cons, a_tup, a_lst, a_call, a_meth, a_make, a_cb, a_bm0, a_m1, a_bm, a_fld, a_sfld, a_sfldAug, a_aug, a_test, a_tB, a_and, a_or, a_not, a_if, a_sl, a_noPart, a_part,
  a_for, a_iTup, a_iList, a_iStr, a_iRng1, a_iRng2, rng1, rng2, a_lc, a_yes, a_gTup, a_gCons, a_gNil, a_gSub, wipe, List.set_cons_zero, List.set_cons_succ,
  v0, v1, v2, v3, v4, v5, v6, v7, v8, v9, v10, n0, n1, n2, n3, n4, n5, n6, n7, n8, n9, n10, i_0, i_c, i_u, e_i, e_s, e_b, e_n, ne_i, ne_s, ne_b, tst, tsi, tss, tsr, Vl.s0, Vl.s1, Vl.s2, Vl.s3, Vl.s4, Vl.s5, List.map_cons, List.map_nil, List.length_cons, List.length_nil, List.replicate, List.cons_append, List.nil_append, Nat.reduceAdd, Nat.reduceSub, decide_eq_true_eq, ofS, String.reduceEq, decide_true, decide_false, Bool.false_eq_true, Bool.not_true, Bool.not_false, if_true, if_false])
local macro_rules | `(tactic| walk_at "wk") => `(tactic| simp only [L2.start, cxK, a_seq, a_next, a_asg, a_ret, a_retN, a_drop, a_ifS, a_break, a_cont, a_c, q_eq, q_ne, q_in, q_ix, q_i0, q_iC, a_un, a_nil, a_cons, a_tup, a_meth, a_make, a_cb, a_bm0, a_m1, a_bm, a_fld, a_sfld, a_sfldAug, a_aug, a_test, a_tB, a_and, a_or, a_not, a_if, a_sl, a_noPart, a_part,
  a_for, a_iTup, a_iList, a_iStr, a_iRng1, a_iRng2, rng1, rng2, a_lc, a_yes, a_gTup, a_gCons, a_gNil, a_gSub, wipe, List.set_cons_zero, List.set_cons_succ,
  v0, v1, v2, v3, v4, v5, v6, v7, v8, v9, v10, n0, n1, n2, n3, n4, n5, n6, n7, n8, n9, n10, i_0, i_c, i_u, e_i, e_s, e_b, e_n, ne_i, ne_s, ne_b, tst, tsi, tss, tsr, Vl.s0, Vl.s1, Vl.s2, Vl.s3, Vl.s4, Vl.s5, List.map_cons, List.map_nil, List.length_cons, List.length_nil, List.replicate, List.cons_append, List.nil_append, Nat.reduceAdd, Nat.reduceSub, decide_eq_true_eq, ofS, String.reduceEq, decide_true, decide_false, Bool.false_eq_true, Bool.not_true, Bool.not_false, if_true, if_false])
section
variable {P : Program} {w : World} {K : PySem.W.Frag} {mg : Str → Option Value} {base : Heap}
theorem ok__law_integer (T : Txt K mg) : OkF P w K mg base CX0 "_law_integer" 2 ["box"] (spG K PyData.int (fun i => -1000000000 ≤ i ∧ i ≤ 1000000000)) := by
  refine mkF T.d__law_integer T.g__law_integer sc__law_integer bw__law_integer (fun vs H Q E h => l1 h) (fun cdv A outer s H vs Q E hr h => ?_)
  obtain ⟨_, rfl, b, dl, rfl, B, k⟩ := h
  refine ⟨_, PSs.nox ((pss_cons (ps_set (i := 1) sc__law_integer.nd rfl (by first | exact Or.inl rfl | exact Or.inr rfl) (fcall (ok__law_draw T) (hr.mono (by decide)) pass0 (pa_cons (pv 0) (pa_cons pe_int pa_nil))))
    (pss_cons (ps_set (i := 2) sc__law_integer.nd rfl (by first | exact Or.inl rfl | exact Or.inr rfl) (fcall (ok__law_draw T) (hr.mono (by decide)) pass0 (pa_cons (pv 0) (pa_cons pe_int pa_nil))))
    (pss_cons (ps_if (pt_cmpR op_eq (pv 1) pe_int (nomark _))
      (pss_one (ps_set (i := 2) sc__law_integer.nd rfl (by first | exact Or.inl rfl | exact Or.inr rfl) (pe_op op_sub (pe_op op_pow pe_int pe_int) (pv 2))))
      pss_nil)
    (pss_cons (ps_if (pt_cmpR op_eq (pv 1) pe_int (nomark _))
      (pss_one (ps_set (i := 2) sc__law_integer.nd rfl (by first | exact Or.inl rfl | exact Or.inr rfl) (pe_op op_add (pe_op op_mul (pv 2) pe_int) (fcall (ok__law_draw T) (hr.mono (by decide)) pass0 (pa_cons (pv 0) (pa_cons pe_int pa_nil))))))
      pss_nil)
    (pss_cons (ps_if (pt_cmpR op_eq (fcall (ok__law_draw T) (hr.mono (by decide)) pass0 (pa_cons (pv 0) (pa_cons pe_int pa_nil))) pe_int (nomark _))
      (pss_one (ps_ret (pe_un un_neg (pv 2))))
      pss_nil)
    (pss_one (ps_ret (pv 2))))))))), ?_⟩
  walk_at "wp"
  refine dcall 5 rfl (by decide) B fun H1 d1 o1 B1 h1 => ?_
  refine dcall 300 rfl (by decide) B1 fun H2 d2 o2 B2 h2 => ?_
  walk_at "wp"
  have e9 : (10 : Int) ^ (9 : Int).toNat = 1000000000 := by decide
  rw [e9]
  have o12 := o1.trans o2
  have fin : ∀ (H3 : Hp) (z : Int), Off (· = b) H H3 → Bb b dl H3 → -1000000000 ≤ z → z ≤ 1000000000 → Q (.int z) H3 := fun H3 z o B h1 h2 => k _ _ z o B (.int _) ⟨h1, h2⟩
  split
  · rw [if_neg (by omega)]
    refine ⟨⟨by decide, by decide, by decide⟩, dcall 2 rfl (by decide) B2 fun H3 d3 o3 B3 h3 => ?_⟩
    walk_at "wp"
    split
    · exact fin _ _ (o12.trans o3) B3 (by omega) (by omega)
    · exact fin _ _ (o12.trans o3) B3 (by omega) (by omega)
  · split
    · refine ⟨.inr (by decide), dcall 1000 rfl (by decide) B2 fun H3 d3 o3 B3 h3 => ?_⟩
      walk_at "wp"
      refine dcall 2 rfl (by decide) B3 fun H4 d4 o4 B4 h4 => ?_
      walk_at "wp"
      split
      · exact fin _ _ (o12.trans (o3.trans o4)) B4 (by omega) (by omega)
      · exact fin _ _ (o12.trans (o3.trans o4)) B4 (by omega) (by omega)
    · refine dcall 2 rfl (by decide) B2 fun H3 d3 o3 B3 h3 => ?_
      walk_at "wp"
      split
      · exact fin _ _ (o12.trans o3) B3 (by omega) (by omega)
      · exact fin _ _ (o12.trans o3) B3 (by omega) (by omega)
theorem ok__law_string (T : Txt K mg) : OkF P w K mg base CX0 "_law_string" 2 ["box", "most"] (Sp2 fun a m H Q _ => ∃ b dl, a = .ref b ∧ m = .int 20 ∧ Bb b dl H ∧ ∀ v H' ks, Off (· = b) H H' → Bb b dl H' → Dp K H' v (pS ks) → Tx ks ∧ ks.length ≤ 20 → Q v H') := by
  refine mkF T.d__law_string T.g__law_string sc__law_string bw__law_string (fun vs H Q E h => l2 h) (fun cdv A outer s H vs Q E hr h => ?_)
  obtain ⟨_, _, rfl, b, dl, rfl, rfl, B, k⟩ := h
  refine ⟨_, PSs.nox ((pss_cons (ps_set (i := 2) sc__law_string.nd rfl (by first | exact Or.inl rfl | exact Or.inr rfl) (fcall0 (ok__law_signs T) (hr.mono (by decide)) pass0))
    (pss_cons (ps_set (i := 3) sc__law_string.nd rfl (by first | exact Or.inl rfl | exact Or.inr rfl) (fcall (ok__law_draw T) (hr.mono (by decide)) pass0 (pa_cons (pv 0) (pa_cons pe_int pa_nil))))
    (pss_cons (ps_if (pt_cmpR op_eq (fcall (ok__law_draw T) (hr.mono (by decide)) pass0 (pa_cons (pv 0) (pa_cons pe_int pa_nil))) pe_int (nomark _))
      (pss_one (ps_set (i := 3) sc__law_string.nd rfl (by first | exact Or.inl rfl | exact Or.inr rfl) (pe_op op_sub (pv 1) (fcall (ok__law_draw T) (hr.mono (by decide)) pass0 (pa_cons (pv 0) (pa_cons pe_int pa_nil))))))
      pss_nil)
    (pss_one (ps_ret (pe_join pe_str (pe_lc (own := [("k", 4)]) (g := gName 4) (tt := tYes) rfl sc__law_string.nd (pi_range1 (by rfl) T.n_range (pa_cons (pv 3) pa_nil)) (blkOk_by (N := ["box", "most", "signs", "size", "k"]) (sc := defScope s__law_string) (by decide +kernel)) (fun _ _ _ _ _ => pg_name (i := 4) sc__law_string.nd rfl (Or.inl rfl)) (fun _ _ _ _ _ => pts_nil) (fun _ _ _ _ _ => (pe_ix ix_str (pv 2) (fcall (ok__law_draw T) (hr.mono (by decide)) pass0 (pa_cons (pv 0) (pa_cons pe_int pa_nil))) (fun _ _ => rfl))))))))))), ?_⟩
  walk_at "wp"
  refine dcall 5 rfl (by decide) B fun H1 d1 o1 B1 h1 => ?_
  refine dcall 6 rfl (by decide) B1 fun H2 d2 o2 B2 h2 => ?_
  walk_at "wp"
  have o12 := o1.trans o2
  split
  · refine dcall 2 rfl (by decide) B2 fun H3 d3 o3 B3 h3 => ?_
    walk_at "wp"
    refine ⟨⟨_, rfl⟩, _, rfl, Int.le_trans (by decide : -(2 ^ 62 : Int) ≤ 0) (by omega), Int.lt_of_le_of_lt (by omega : (20 : Int) - d3 ≤ 20000000) (by decide), ?_⟩
    refine lcNx (K := K) (fun k => .str ⟨#[sgAt k]⟩) (· < 94) B3 (fun _ => rfl) (by omega) (fun i hi H4 o4 B4 N kN => ?_) fun D H4 ys ds hl hp nD o4 B4 hD hA => ?_
    · walk_at "wp"
      exact ⟨trivial, _, _, rfl, b, dl, 94, rfl, rfl, by decide, B4, fun H5 d5 o5 B5 h5 => ixc h5 (kN _ d5 _ o5 B5 (.str _) h5)⟩
    · refine ⟨_, D, ds.map fun k => ⟨#[sgAt k]⟩, rfl, rfl, .inl (sqL_signs hD hA), ?_, ?_⟩
      · rw [strs_len, List.length_map]
        show _ + _ * 0 ≤ _
        omega
      · rw [joinT]
        exact k _ _ ds (o12.trans (o3.trans o4)) B4 (.str _) ⟨hp, by omega⟩
  · refine ⟨⟨_, rfl⟩, _, rfl, (rgb (by omega)).1, (rgb (by omega)).2, ?_⟩
    refine lcNx (K := K) (fun k => .str ⟨#[sgAt k]⟩) (· < 94) B2 (fun _ => rfl) (by omega) (fun i hi H4 o4 B4 N kN => ?_) fun D H4 ys ds hl hp nD o4 B4 hD hA => ?_
    · walk_at "wp"
      exact ⟨trivial, _, _, rfl, b, dl, 94, rfl, rfl, by decide, B4, fun H5 d5 o5 B5 h5 => ixc h5 (kN _ d5 _ o5 B5 (.str _) h5)⟩
    · refine ⟨_, D, ds.map fun k => ⟨#[sgAt k]⟩, rfl, rfl, .inl (sqL_signs hD hA), ?_, ?_⟩
      · rw [strs_len, List.length_map]
        show _ + _ * 0 ≤ _
        omega
      · rw [joinT]
        exact k _ _ ds (o12.trans o4) B4 (.str _) ⟨hp, by omega⟩
theorem ok__law_number (T : Txt K mg) : OkF P w K mg base CX0 "_law_number" 2 ["box"] (spG K pN Nm) := by
  refine mkF T.d__law_number T.g__law_number sc__law_number bw__law_number (fun vs H Q E h => l1 h) (fun cdv A outer s H vs Q E hr h => ?_)
  obtain ⟨_, rfl, b, dl, rfl, B, k⟩ := h
  refine ⟨_, PSs.nox ((pss_cons (ps_set (i := 1) sc__law_number.nd rfl (by first | exact Or.inl rfl | exact Or.inr rfl) (fcall (ok__law_draw T) (hr.mono (by decide)) pass0 (pa_cons (pv 0) (pa_cons pe_int pa_nil))))
    (pss_cons (ps_if (pt_cmpR op_eq (pv 1) pe_int (nomark _))
      (pss_one (ps_ret (pe_op op_sub (pe_op op_pow pe_int pe_int) (fcall (ok__law_draw T) (hr.mono (by decide)) pass0 (pa_cons (pv 0) (pa_cons pe_int pa_nil))))))
      pss_nil)
    (pss_cons (ps_if (pt_cmpR op_eq (pv 1) pe_int (nomark _))
      (pss_one (ps_ret (pe_op op_add pe_int (fcall (ok__law_draw T) (hr.mono (by decide)) pass0 (pa_cons (pv 0) (pa_cons pe_int pa_nil))))))
      pss_nil)
    (pss_cons (ps_if (pt_cmpR op_eq (pv 1) pe_int (nomark _))
      (pss_one (ps_ret (pe_op op_add (pe_op op_add pe_int (pe_op op_mul (fcall (ok__law_draw T) (hr.mono (by decide)) pass0 (pa_cons (pv 0) (pa_cons pe_int pa_nil))) pe_int)) (fcall (ok__law_draw T) (hr.mono (by decide)) pass0 (pa_cons (pv 0) (pa_cons pe_int pa_nil))))))
      pss_nil)
    (pss_one (ps_ret (pe_op op_add pe_int (fcall (ok__law_draw T) (hr.mono (by decide)) pass0 (pa_cons (pv 0) (pa_cons pe_int pa_nil))))))))))), ?_⟩
  walk_at "wp"
  refine dcall 6 rfl (by decide) B fun H1 d1 o1 B1 h1 => ?_
  walk_at "wp"
  have e9 : (10 : Int) ^ (9 : Int).toNat = 1000000000 := by decide
  rw [e9]
  have fin : ∀ (H3 : Hp) (z : Int), Off (· = b) H H3 → Bb b dl H3 → 1 ≤ z → z ≤ 1000000000 → Q (.int z) H3 := fun H3 z o B h1 h2 => by
    have := k (.int z) _ z.toNat o B (by rw [pN, dI, Int.toNat_of_nonneg (by omega)]) ⟨by omega, by omega⟩
    exact this
  split
  · refine ⟨⟨by decide, by decide, by decide⟩, dcall 3 rfl (by decide) B1 fun H3 d3 o3 B3 h3 => ?_⟩
    walk_at "wp"
    exact fin _ _ (o1.trans o3) B3 (by omega) (by omega)
  split
  · refine dcall 5 rfl (by decide) B1 fun H3 d3 o3 B3 h3 => ?_
    walk_at "wp"
    exact fin _ _ (o1.trans o3) B3 (by omega) (by omega)
  split
  · refine dcall 1000 rfl (by decide) B1 fun H3 d3 o3 B3 h3 => ?_
    walk_at "wp"
    refine ⟨.inr (by decide), dcall 1000 rfl (by decide) B3 fun H4 d4 o4 B4 h4 => ?_⟩
    walk_at "wp"
    exact fin _ _ (o1.trans (o3.trans o4)) B4 (by omega) (by omega)
  · refine dcall 9 rfl (by decide) B1 fun H3 d3 o3 B3 h3 => ?_
    walk_at "wp"
    exact fin _ _ (o1.trans o3) B3 (by omega) (by omega)
theorem ok__law_reference (T : Txt K mg) : OkF P w K mg base CX0 "_law_reference" 3 ["box"] (spG K DRef.d DRef.ok) := by
  refine mkF T.d__law_reference T.g__law_reference sc__law_reference bw__law_reference (fun vs H Q E h => l1 h) (fun cdv A outer s H vs Q E hr h => ?_)
  obtain ⟨_, rfl, b, dl, rfl, B, k⟩ := h
  refine ⟨_, PSs.nox ((pss_one (ps_ret (pe_tup (pa_cons (pe_ix ix_list (pe_lst (pa_cons pe_str (pa_cons pe_str pa_nil))) (fcall (ok__law_draw T) (hr.mono (by decide)) pass0 (pa_cons (pv 0) (pa_cons pe_int pa_nil))) (fun _ _ => rfl)) (pa_cons (pe_op op_add pe_int (fcall (ok__law_draw T) (hr.mono (by decide)) pass0 (pa_cons (pv 0) (pa_cons pe_int pa_nil)))) (pa_cons (fcall (ok__law_number T) (hr.mono (by decide)) pass0 (pa_cons (pv 0) pa_nil)) pa_nil))))))), ?_⟩
  walk_at "wp"
  refine ⟨by decide, fun p np => ?_⟩
  have B0 := B.new (o := .lst [V.str "object", V.str "promise"]) np
  have o0 := (Off.refl (S := (· = b)) (H := H)).new (o := .lst [V.str "object", V.str "promise"]) np
  have pb : p ≠ b := fun e => B.b0 (by rw [← e]; exact np)
  refine dcall 2 rfl (by decide) B0 fun H1 d1 o1 B1 h1 => ?_
  refine ix_l (.of (o1 p _ pb upd_same)) (u := .str (if decide (d1 = 1) = true then "promise" else "object")) (atI_nat ?_) ?_
  · have : d1 = 0 ∨ d1 = 1 := by omega
    rcases this with rfl | rfl <;> rfl
  refine dcall 9 rfl (by decide) B1 fun H2 d2 o2 B2 h2 => ?_
  walk_at "wp"
  refine gcall' B2 fun v H3 x o3 B3 dv hx => ⟨by decide, fun q nq => ?_⟩
  refine k _ _ ⟨decide (d1 = 1), d2 + 1, x⟩ ((o0.trans (o1.trans (o2.trans o3))).new nq) (B3.new nq) (dp_tup nq (.cons (by rw [dS]; by_cases c : d1 = 1 <;> simp [c]) (.cons ?_ (.cons dv .nil)))) ⟨by show 1 ≤ d2 + 1; omega, by show d2 + 1 ≤ 9; omega, hx.1, hx.2⟩
  rw [pN, dI]
  show V.int (1 + (d2 : Int)) = V.int ((d2 + 1 : Nat) : Int)
  rw [show (1 + (d2 : Int)) = ((d2 + 1 : Nat) : Int) by omega]
theorem ok__law_atom (T : Txt K mg) : OkF P w K mg base CX0 "_law_atom" 4 ["box"] (spG K DAt.d DAt.ok) := by
  refine mkF T.d__law_atom T.g__law_atom sc__law_atom bw__law_atom (fun vs H Q E h => l1 h) (fun cdv A outer s H vs Q E hr h => ?_)
  obtain ⟨_, rfl, b, dl, rfl, B, k⟩ := h
  refine ⟨_, PSs.nox ((pss_cons (ps_set (i := 1) sc__law_atom.nd rfl (by first | exact Or.inl rfl | exact Or.inr rfl) (fcall (ok__law_draw T) (hr.mono (by decide)) pass0 (pa_cons (pv 0) (pa_cons pe_int pa_nil))))
    (pss_cons (ps_if (pt_cmpR op_eq (pv 1) pe_int (nomark _))
      (pss_one (ps_ret (pe_tup (pa_cons pe_str pa_nil))))
      pss_nil)
    (pss_cons (ps_if (pt_cmpR op_eq (pv 1) pe_int (nomark _))
      (pss_one (ps_ret (pe_tup (pa_cons pe_str (pa_cons (pe_cmpR op_eq (fcall (ok__law_draw T) (hr.mono (by decide)) pass0 (pa_cons (pv 0) (pa_cons pe_int pa_nil))) pe_int (nomark _)) pa_nil)))))
      pss_nil)
    (pss_cons (ps_if (pt_cmpR op_lt (pv 1) pe_int (nomark _))
      (pss_one (ps_ret (pe_tup (pa_cons pe_str (pa_cons (fcall (ok__law_integer T) (hr.mono (by decide)) pass0 (pa_cons (pv 0) pa_nil)) pa_nil)))))
      pss_nil)
    (pss_cons (ps_if (pt_cmpR op_eq (pv 1) pe_int (nomark _))
      (pss_one (ps_ret (pe_tup (pa_cons pe_str (pa_cons (fcall (ok__law_string T) (hr.mono (by decide)) pass0 (pa_cons (pv 0) (pa_cons pe_int pa_nil))) pa_nil)))))
      pss_nil)
    (pss_one (ps_ret (fcall (ok__law_reference T) (hr.mono (by decide)) pass0 (pa_cons (pv 0) pa_nil)))))))))), ?_⟩
  walk_at "wp"
  refine dcall 9 rfl (by decide) B fun H1 d1 o1 B1 h1 => ?_
  walk_at "wp"
  split
  · exact ⟨by decide, fun q nq => k _ _ .non (o1.new nq) (B1.new nq) (dp_tup nq (.cons (.str _) .nil)) True.intro⟩
  split
  · refine dcall 2 rfl (by decide) B1 fun H2 d2 o2 B2 h2 => ?_
    walk_at "wp"
    exact ⟨by decide, fun q nq => k _ _ (.bl _) ((o1.trans o2).new nq) (B2.new nq) (dp_tup nq (.cons (.str _) (.cons (by rw [dB]) .nil))) True.intro⟩
  split
  · refine gcall' B1 fun v H2 x o2 B2 dv hx => ⟨by decide, fun q nq => ?_⟩
    exact k _ _ (.int x) ((o1.trans o2).new nq) (B2.new nq) (dp_tup nq (.cons (.str _) (.cons dv .nil))) hx
  split
  · refine ⟨b, dl, rfl, True.intro, B1, fun v H2 ks o2 B2 dv hx => ⟨by decide, fun q nq => ?_⟩⟩
    exact k _ _ (.txt ks) ((o1.trans o2).new nq) (B2.new nq) (dp_tup nq (.cons (.str _) (.cons dv .nil))) hx
  · exact gcall' B1 fun v H2 x o2 B2 dv hx => k _ _ (.ref x) (o1.trans o2) B2 dv hx
theorem ok__law_value (T : Txt K mg) : OkF P w K mg base CX0 "_law_value" 5 ["box"] (spG K DVa.d DVa.ok) := by
  refine mkF T.d__law_value T.g__law_value sc__law_value bw__law_value (fun vs H Q E h => l1 h) (fun cdv A outer s H vs Q E hr h => ?_)
  obtain ⟨_, rfl, b, dl, rfl, B, k⟩ := h
  refine ⟨_, PSs.nox ((pss_cons (ps_if (pt_cmpR op_gt (fcall (ok__law_draw T) (hr.mono (by decide)) pass0 (pa_cons (pv 0) (pa_cons pe_int pa_nil))) pe_int (nomark _))
      (pss_one (ps_ret (fcall (ok__law_atom T) (hr.mono (by decide)) pass0 (pa_cons (pv 0) pa_nil))))
      pss_nil)
    (pss_one (ps_ret (pe_tup (pa_cons pe_str (pa_cons (pe_callTy call_tuple_of (by rfl) T.n_tuple (by decide +kernel) (pa_cons (pe_lc (own := [("k", 1)]) (g := gName 1) (tt := tYes) rfl sc__law_value.nd (pi_range1 (by rfl) T.n_range (pa_cons (fcall (ok__law_draw T) (hr.mono (by decide)) pass0 (pa_cons (pv 0) (pa_cons pe_int pa_nil))) pa_nil)) (blkOk_by (N := ["box", "k"]) (sc := defScope s__law_value) (by decide +kernel)) (fun _ _ _ _ _ => pg_name (i := 1) sc__law_value.nd rfl (Or.inl rfl)) (fun _ _ _ _ _ => pts_nil) (fun _ _ _ _ _ => (fcall (ok__law_atom T) (hr.mono (by decide)) pass0 (pa_cons (pv 0) pa_nil)))) pa_nil)) pa_nil))))))), ?_⟩
  walk_at "wp"
  refine dcall 4 rfl (by decide) B fun H1 d1 o1 B1 h1 => ?_
  walk_at "wp"
  split
  · exact gcall' B1 fun v H2 x o2 B2 dv hx => k _ _ (.one x) (o1.trans o2) B2 dv hx
  · refine dcall 9 rfl (by decide) B1 fun H2 d2 o2 B2 h2 => ?_
    refine ⟨_, rfl, (rgb (by omega)).1, (rgb (by omega)).2, ?_⟩
    refine lcNx (K := K) DAt.d DAt.ok B2 nl_at (by omega) (fun i hi H4 o4 B4 N kN => ?_) fun D H4 ys ds hl hp nD o4 B4 hD hA => ?_
    · walk_at "wp"
      exact ⟨trivial, gcall' B4 fun v H5 x o5 B5 dv hx => kN _ x _ o5 B5 dv hx⟩
    · refine ⟨D, ys, rfl, .inl ⟨.of hD, fun l nl => ⟨by decide, fun q nq => ?_⟩⟩⟩
      have d6 := dp_tup nl hA
      exact k _ _ (.lst ds) (((o1.trans (o2.trans o4)).new nl).new nq) ((B4.new nl).new nq) (dp_tup nq (.cons (.str _) (.cons d6 .nil))) ⟨by omega, hp⟩
theorem ok__law_name (T : Txt K mg) : OkF P w K mg base CX0 "_law_name" 2 ["box"] (spG K pS Name) := by
  refine mkF T.d__law_name T.g__law_name sc__law_name bw__law_name (fun vs H Q E h => l1 h) (fun cdv A outer s H vs Q E hr h => ?_)
  obtain ⟨_, rfl, b, dl, rfl, B, k⟩ := h
  refine ⟨_, PSs.nox ((pss_cons (ps_set (i := 1) sc__law_name.nd rfl (by first | exact Or.inl rfl | exact Or.inr rfl) pe_str)
    (pss_one (ps_ret (pe_join pe_str (pe_lc (own := [("k", 2)]) (g := gName 2) (tt := tYes) rfl sc__law_name.nd (pi_range1 (by rfl) T.n_range (pa_cons (pe_op op_add pe_int (fcall (ok__law_draw T) (hr.mono (by decide)) pass0 (pa_cons (pv 0) (pa_cons pe_int pa_nil)))) pa_nil)) (blkOk_by (N := ["box", "letters", "k"]) (sc := defScope s__law_name) (by decide +kernel)) (fun _ _ _ _ _ => pg_name (i := 2) sc__law_name.nd rfl (Or.inl rfl)) (fun _ _ _ _ _ => pts_nil) (fun _ _ _ _ _ => (pe_ix ix_str (pv 1) (fcall (ok__law_draw T) (hr.mono (by decide)) pass0 (pa_cons (pv 0) (pa_cons pe_int pa_nil))) (fun _ _ => rfl))))))))), ?_⟩
  walk_at "wp"
  refine ⟨⟨_, rfl⟩, dcall 12 rfl (by decide) B fun H1 d1 o1 B1 h1 => ?_⟩
  walk_at "wp"
  refine ⟨_, rfl, Int.le_trans (by decide : -(2 ^ 62 : Int) ≤ 0) (by omega), Int.lt_of_le_of_lt (by omega : (1 : Int) + d1 ≤ 20000000) (by decide), ?_⟩
  refine lcNx (K := K) (fun k => .str ⟨#[sgAt k]⟩) (fun k => 64 ≤ k ∧ k < 90) B1 (fun _ => rfl) (by omega) (fun i hi H4 o4 B4 N kN => ?_) fun D H4 ys ds hl hp nD o4 B4 hD hA => ?_
  · walk_at "wp"
    exact ⟨trivial, _, _, rfl, b, dl, 26, rfl, rfl, by decide, B4, fun H5 d5 o5 B5 h5 => ixlet h5 (kN _ (d5 + 64) _ o5 B5 (.str _) ⟨by omega, by omega⟩)⟩
  · refine ⟨_, D, ds.map fun k => ⟨#[sgAt k]⟩, rfl, rfl, .inl (sqL_signs hD hA), ?_, ?_⟩
    · rw [strs_len, List.length_map]
      show _ + _ * 0 ≤ _
      omega
    · rw [joinT]
      exact k _ _ ds (o1.trans o4) B4 (.str _) ⟨hp, by omega, by omega⟩
theorem ok__law_weight (T : Txt K mg) : OkF P w K mg base CX0 "_law_weight" 2 ["box"] (spG K DWt.d DWt.ok) := by
  refine mkF T.d__law_weight T.g__law_weight sc__law_weight bw__law_weight (fun vs H Q E h => l1 h) (fun cdv A outer s H vs Q E hr h => ?_)
  obtain ⟨_, rfl, b, dl, rfl, B, k⟩ := h
  refine ⟨_, PSs.nox ((pss_cons (ps_set (i := 1) sc__law_weight.nd rfl (by first | exact Or.inl rfl | exact Or.inr rfl) (pe_ix ix_list (pe_lst (pa_cons pe_int (pa_cons pe_int (pa_cons (fcall (ok__law_draw T) (hr.mono (by decide)) pass0 (pa_cons (pv 0) (pa_cons pe_int pa_nil))) (pa_cons (pe_op op_sub pe_int (fcall (ok__law_draw T) (hr.mono (by decide)) pass0 (pa_cons (pv 0) (pa_cons pe_int pa_nil)))) pa_nil))))) (fcall (ok__law_draw T) (hr.mono (by decide)) pass0 (pa_cons (pv 0) (pa_cons pe_int pa_nil))) (fun _ _ => rfl)))
    (pss_cons (ps_set (i := 2) sc__law_weight.nd rfl (by first | exact Or.inl rfl | exact Or.inr rfl) pe_int)
    (pss_cons (ps_for PassesOwn.never rfl (pi_range1 (by rfl) T.n_range (pa_cons (fcall (ok__law_draw T) (hr.mono (by decide)) pass0 (pa_cons (pv 0) (pa_cons pe_int pa_nil))) pa_nil)) (pg_name (i := 3) sc__law_weight.nd rfl (by first | exact Or.inl rfl | exact Or.inr rfl))
      (pss_one (ps_set (i := 2) sc__law_weight.nd rfl (by first | exact Or.inl rfl | exact Or.inr rfl) (pe_op op_add (pe_op op_mul (pv 2) pe_int) (fcall (ok__law_draw T) (hr.mono (by decide)) pass0 (pa_cons (pv 0) (pa_cons pe_int pa_nil)))))))
    (pss_cons (ps_if (PW.pt (pw_and (pt_cmpR op_eq (pe_op op_mod (pe_callTy call_int1 (by rfl) T.n_int (by decide +kernel) (pa_cons (pv 2) pa_nil)) pe_int) pe_int (nomark _)) (pw_and1 (pt_cmpR op_gt (pv 1) pe_int (nomark _)))))
      (pss_one (ps_set (i := 2) sc__law_weight.nd rfl (by first | exact Or.inl rfl | exact Or.inr rfl) (pe_op op_add (pv 2) pe_int)))
      pss_nil)
    (pss_one (ps_ret (pe_tup (pa_cons (pv 2) (pa_cons (pv 1) pa_nil)))))))))), ?_⟩
  walk_at "wp"
  refine dcall 200 rfl (by decide) B fun H1 d1 o1 B1 h1 => ?_
  refine dcall 3 rfl (by decide) B1 fun H2 d2 o2 B2 h2 => ?_
  walk_at "wp"
  refine ⟨by decide, fun p np => ?_⟩
  have B3 := B2.new (o := .lst [.int 0, .int 1, .int (d1 : Nat), .int (10000 - (d2 : Int))]) np
  have o3 := (o1.trans o2).new (o := .lst [.int 0, .int 1, .int (d1 : Nat), .int (10000 - (d2 : Int))]) np
  have pb : p ≠ b := fun e => B2.b0 (by rw [← e]; exact np)
  refine dcall 4 rfl (by decide) B3 fun H4 d4 o4 B4 h4 => ?_
  have he : ∃ ex : Nat, ex ≤ 10000 ∧ ([.int 0, .int 1, .int (d1 : Nat), .int (10000 - (d2 : Int))] : List V)[d4]? = some (.int ex) := by
    have : d4 = 0 ∨ d4 = 1 ∨ d4 = 2 ∨ d4 = 3 := by omega
    rcases this with rfl | rfl | rfl | rfl
    · exact ⟨0, by decide, rfl⟩
    · exact ⟨1, by decide, rfl⟩
    · exact ⟨d1, by omega, rfl⟩
    · exact ⟨10000 - d2, by omega, by show some (V.int (10000 - (d2 : Int))) = _; rw [show (10000 - (d2 : Int)) = ((10000 - d2 : Nat) : Int) by omega]⟩
  obtain ⟨ex, hex, hei⟩ := he
  refine ix_l (.of (o4 p _ pb upd_same)) (atI_nat hei) ?_
  refine dcall 4 rfl (by decide) B4 fun H5 d5 o5 B5 h5 => ?_
  refine ⟨_, rfl, (rgb (by omega)).1, (rgb (by omega)).2, ?_⟩
  refine forN (fun i σ H6 => ∃ m : Nat, ∃ y3, σ = [some (.ref b), some (.int (ex : Nat)), some (.int (m : Nat)), y3] ∧ Off (· = b) H H6 ∧ Bb b dl H6 ∧ 1 ≤ m ∧ m < 1001 ^ i * 2) ⟨1, none, rfl, o3.trans (o4.trans o5), B5, by decide, by decide⟩ ?_ ?_
  · rintro i σ H6 hi ⟨m, y3, rfl, o6, B6, h6, h6b⟩
    walk_at "wp"
    refine ⟨.inr (by decide), dcall 1000 rfl (by decide) B6 fun H7 d7 o7 B7 h7 => ?_⟩
    walk_at "wp"
    rw [show ((m : Int) * 1000 + d7) = ((m * 1000 + d7 : Nat) : Int) by omega]
    refine ⟨m * 1000 + d7, _, rfl, o6.trans o7, B7, by omega, ?_⟩
    · rw [Nat.pow_succ]
      generalize 1001 ^ i = z at h6b ⊢
      omega
  · rintro σ H6 ⟨m, y3, rfl, o6, B6, h6, h6b⟩
    have hm : m < 900000000000 := by
      have e1 : ((d5 : Int)).toNat = d5 := by omega
      rw [e1] at h6b
      have : d5 = 0 ∨ d5 = 1 ∨ d5 = 2 ∨ d5 = 3 := by omega
      rcases this with rfl | rfl | rfl | rfl <;> omega
    have fin : ∀ z : Nat, 1 ≤ z → z ≤ m + 1 → (ex = 0 ∨ z % 2 = 1) → ∀ q, H6 q = none → Q (.ref q) (upd H6 q (.tup [.int (z : Nat), .int (ex : Nat)])) := fun z hz hz2 hodd q nq =>
      k _ _ ⟨z, ex⟩ (o6.new nq) (B6.new nq) (dp_tup nq (.cons (.int _) (.cons (.int _) .nil))) ⟨hz, Nat.le_trans (cnt_len 6 z (by omega)) (by decide), hex, hodd, by show z < 1000000000000; omega⟩
    walk_at "wp"
    refine .inl ⟨_, rfl, by decide, ?_⟩
    split
    · split
      · refine ⟨by decide, ?_⟩
        rw [show (m : Int) + 1 = ((m + 1 : Nat) : Int) by omega]
        exact fin _ (by omega) (by omega) (.inr (by omega))
      · exact ⟨by decide, fin _ h6 (by omega) (.inl (by omega))⟩
    · exact ⟨by decide, fin _ h6 (by omega) (.inr (by omega))⟩
theorem ok__law_send (T : Txt K mg) : OkF P w K mg base CX0 "_law_send" 3 ["box"] (spG K DSd.d DSd.ok) := by
  refine mkF T.d__law_send T.g__law_send sc__law_send bw__law_send (fun vs H Q E h => l1 h) (fun cdv A outer s H vs Q E hr h => ?_)
  obtain ⟨_, rfl, b, dl, rfl, B, k⟩ := h
  refine ⟨_, PSs.nox ((pss_one (ps_ret (pe_tup (pa_cons (pe_op op_add pe_int (fcall (ok__law_draw T) (hr.mono (by decide)) pass0 (pa_cons (pv 0) (pa_cons pe_int pa_nil)))) (pa_cons (fcall (ok__law_number T) (hr.mono (by decide)) pass0 (pa_cons (pv 0) pa_nil)) pa_nil)))))), ?_⟩
  walk_at "wp"
  refine dcall 9 rfl (by decide) B fun H1 d1 o1 B1 h1 => ?_
  walk_at "wp"
  refine gcall' B1 fun v H3 x o3 B3 dv hx => ⟨by decide, fun q nq => ?_⟩
  refine k _ _ ⟨d1 + 1, x⟩ ((o1.trans o3).new nq) (B3.new nq) (dp_tup nq (.cons ?_ (.cons dv .nil))) ⟨by show 1 ≤ d1 + 1; omega, by show d1 + 1 ≤ 9; omega, hx.1, hx.2⟩
  rw [pN, dI]
  show V.int (1 + (d1 : Int)) = V.int ((d1 + 1 : Nat) : Int)
  rw [show (1 + (d1 : Int)) = ((d1 + 1 : Nat) : Int) by omega]
end
end Kt
set_option Elab.async false
set_option linter.all false
set_option maxRecDepth 100000
set_option maxHeartbeats 4000000
namespace Kt
open PySem PySem.Spec PyProof.Rows L2 Vl
local macro_rules | `(tactic| walk_at "wp") => `(tactic| simp only [L2.start, cxK, a_seq, a_next, a_asg, a_ret, a_retN, a_drop, a_ifS, a_break, a_cont, a_c, a_op, a_un, a_nil, a_cons, a_tup, a_lst, a_call, a_meth, a_make, a_cb, a_bm0, a_m1, a_bm, a_fld, a_sfld, a_sfldAug, a_aug, a_test, a_tB, a_and, a_or, a_not, a_if, a_sl, a_noPart, a_part,
  a_for, a_iTup, a_iList, a_iStr, a_iRng1, a_iRng2, rng1, rng2, a_lc, a_yes, a_gTup, a_gCons, a_gNil, a_gSub, wipe, List.set_cons_zero, List.set_cons_succ,
  v0, v1, v2, v3, v4, v5, v6, v7, v8, v9, v10, n0, n1, n2, n3, n4, n5, n6, n7, n8, n9, n10, i_0, i_c, i_u, e_i, e_s, e_b, e_n, ne_i, ne_s, ne_b, tst, tsi, tss, tsr, Vl.s0, Vl.s1, Vl.s2, Vl.s3, Vl.s4, Vl.s5, List.map_cons, List.map_nil, List.length_cons, List.length_nil, List.replicate, List.cons_append, List.nil_append, Nat.reduceAdd, Nat.reduceSub, decide_eq_true_eq, ofS, String.reduceEq, decide_true, decide_false, Bool.false_eq_true, Bool.not_true, Bool.not_false, if_true, if_false])
local macro_rules | `(tactic| walk_at "wk") => `(tactic| simp only [L2.start, cxK, a_seq, a_next, a_asg, a_ret, a_retN, a_drop, a_ifS, a_break, a_cont, a_c, q_eq, q_ne, q_in, q_ix, q_i0, q_iC, a_un, a_nil, a_cons, a_tup, a_meth, a_make, a_cb, a_bm0, a_m1, a_bm, a_fld, a_sfld, a_sfldAug, a_aug, a_test, a_tB, a_and, a_or, a_not, a_if, a_sl, a_noPart, a_part,
  a_for, a_iTup, a_iList, a_iStr, a_iRng1, a_iRng2, rng1, rng2, a_lc, a_yes, a_gTup, a_gCons, a_gNil, a_gSub, wipe, List.set_cons_zero, List.set_cons_succ,
  v0, v1, v2, v3, v4, v5, v6, v7, v8, v9, v10, n0, n1, n2, n3, n4, n5, n6, n7, n8, n9, n10, i_0, i_c, i_u, e_i, e_s, e_b, e_n, ne_i, ne_s, ne_b, tst, tsi, tss, tsr, Vl.s0, Vl.s1, Vl.s2, Vl.s3, Vl.s4, Vl.s5, List.map_cons, List.map_nil, List.length_cons, List.length_nil, List.replicate, List.cons_append, List.nil_append, Nat.reduceAdd, Nat.reduceSub, decide_eq_true_eq, ofS, String.reduceEq, decide_true, decide_false, Bool.false_eq_true, Bool.not_true, Bool.not_false, if_true, if_false])
section
variable {P : Program} {w : World} {K : PySem.W.Frag} {mg : Str → Option Value} {base : Heap}
theorem ok__law_atoms (T : Txt K mg) : OkF P w K mg base CX0 "_law_atoms" 1 ["value"] (Sp1 fun a H Q _ => ∃ x : DVa, Dp K H a x.d ∧ x.ats.length ≤ 1000 ∧ ∀ p H' ys, Same H H' → H p = none → H' p = some (.lst ys) → DpAll K H' ys (x.ats.map DAt.d) → Q (.ref p) H') := by
  refine mkF T.d__law_atoms T.g__law_atoms sc__law_atoms bw__law_atoms (fun vs H Q E h => l1 h) (fun cdv A outer s H vs Q E hr h => ?_)
  obtain ⟨a, rfl, x, hd, hn, k⟩ := h
  refine ⟨_, PSs.nox ((pss_cons (ps_if (pt_cmpR op_eq (pe_ix ix_tup (pv 0) pe_int (fun _ _ => rfl)) pe_str (nomark _))
      (pss_one (ps_ret (pe_callTy call_list_of (by rfl) T.n_list (by decide +kernel) (pa_cons (pe_ix ix_tup (pv 0) pe_int (fun _ _ => rfl)) pa_nil))))
      pss_nil)
    (pss_one (ps_ret (pe_lst (pa_cons (pv 0) pa_nil)))))), ?_⟩
  cases x with
  | one t =>
    have hd0 := hd
    obtain ⟨a, xs, rfl, hS, hx⟩ := at_head _ hd
    walk_at "wp"
    refine ix_t hS (atI_nat (j := 0) hx) ?_
    rw [e_s, decide_eq_false (show ¬ Str.ofString t.kd = Str.ofString "list" by rw [ofS]; exact kd_list _)]
    walk_at "wp"
    exact ⟨by decide, fun p np => k _ _ _ (Same.new np) np upd_same (.cons ((SeqKeep.of (Same.new np)).dp hd0) .nil)⟩
  | lst as =>
    obtain ⟨a, y, z, rfl, hS, h1, h2⟩ := dT2 hd
    rw [dS] at h1
    subst h1
    walk_at "wp"
    refine ix_t hS rfl ?_
    walk_at "wp"
    rw [dT] at h2
    obtain ⟨c, xs, rfl, hS2, hA⟩ := h2
    exact ix_t hS rfl ⟨c, xs, rfl, .inr hS2, fun l nl => k _ _ _ (Same.new nl) nl upd_same ((SeqKeep.of (Same.new nl)).dpAll hA)⟩
theorem ok__law_distinct (T : Txt K mg) : OkF P w K mg base CX0 "_law_distinct" 2 ["values"] (Sp1 fun a H Q _ => ∃ vs : List DVa, Dp K H a (.tuple (vs.map DVa.d)) ∧ vs.length ≤ 4 ∧ (∀ x ∈ vs, x.ok) ∧ ∀ p H' ys, Same H H' → H p = none → H' p = some (.lst ys) → DpAll K H' ys ((dist vs).map DRef.d) → Q (.ref p) H') := by
  refine mkF T.d__law_distinct T.g__law_distinct sc__law_distinct bw__law_distinct (fun vs H Q E h => l1 h) (fun cdv A outer s H vs Q E hr h => ?_)
  obtain ⟨a, rfl, vs, hd, hn, hok, k⟩ := h
  refine ⟨_, PSs.nox ((pss_cons (ps_set (i := 1) sc__law_distinct.nd rfl (by first | exact Or.inl rfl | exact Or.inr rfl) (pe_lst pa_nil))
    (pss_cons (ps_for PassesOwn.never rfl (pi_tup (pv 0)) (pg_name (i := 2) sc__law_distinct.nd rfl (by first | exact Or.inl rfl | exact Or.inr rfl))
      (pss_one (ps_for PassesOwn.never rfl (pi_list (fcall (ok__law_atoms T) (hr.mono (by decide)) pass0 (pa_cons (pv 2) pa_nil))) (pg_name (i := 3) sc__law_distinct.nd rfl (by first | exact Or.inl rfl | exact Or.inr rfl))
      (pss_one (ps_if (PW.pt (pw_and (pt_cmpR op_in_seq (pe_ix ix_tup (pv 3) pe_int (fun _ _ => rfl)) (pe_tup (pa_cons pe_str (pa_cons pe_str pa_nil))) (by rfl)) (pw_and1 (pt_cmpR (op_notInD (hu65 hr)) (pv 3) (pv 1) (by rfl)))))
      (pss_one (ps_expr (pe_bm PySem.F.plainAttrs_list PySem.F.slot_list_append PySem.F.type_list_append mt_append (pv 1) (pa_cons (pv 3) pa_nil))))
      pss_nil)))))
    (pss_one (ps_ret (pv 1)))))), ?_⟩
  rw [dT] at hd
  obtain ⟨a, xs, rfl, hS, hA⟩ := hd
  have hx : xs.length = vs.length := by rw [DpAll.length hA, List.length_map]
  have hbig := refs_len vs hn hok
  walk_at "wp"
  refine ⟨by decide, fun p np => ?_⟩
  have s0 := Same.new (o := .lst []) np
  refine forT (fun i σ H2 => ∃ ys y2 y3, σ = [some (.ref a), some (.ref p), y2, y3] ∧ H2 p = some (.lst ys) ∧ DpAll K H2 ys ((((vs.take i).flatMap DVa.refs).foldl addR []).map DRef.d) ∧ Same H H2) ((TupKeep.of s0).sqT hS) ⟨[], none, none, rfl, upd_same, .nil, s0⟩ (fun i σ H2 _ h => ?_) ?_ ?_
  · obtain ⟨ys, y2, y3, _, _, _, s2⟩ := h
    exact (TupKeep.of s2).sqT hS
  · rintro i v σ H2 hv ⟨ys, y2, y3, rfl, hp, hy, s2⟩
    obtain ⟨d, hd2, hvd⟩ := DpAll.get hA hv
    rw [List.getElem?_map] at hd2
    cases hq : vs[i]? with
    | none =>
      rw [hq] at hd2
      cases hd2
    | some z =>
      rw [hq] at hd2
      cases hd2
      have hzo := hok z (List.mem_of_getElem? hq)
      have e1 : (vs.take (i + 1)).flatMap DVa.refs = (vs.take i).flatMap DVa.refs ++ z.refs := by
        rw [List.take_add_one, hq, List.flatMap_append]
        simp
      have e2 : vs.flatMap DVa.refs = (vs.take (i + 1)).flatMap DVa.refs ++ (vs.drop (i + 1)).flatMap DVa.refs := by rw [← List.flatMap_append, List.take_append_drop]
      walk_at "wp"
      refine ⟨z, (SeqKeep.of s2).dp hvd, ?_, fun q H3 zs s3 nq hq3 hz => ?_⟩
      · cases z with
        | one a => exact (by decide : 1 ≤ 1000)
        | lst as => exact Nat.le_trans hzo.1 (by decide)
      have qp : q ≠ p := fun e => by
        rw [e, hp] at nq
        cases nq
      have hzl : zs.length = z.ats.length := by rw [DpAll.length hz, List.length_map]
      rw [e1]
      refine forL (fun j σ H4 => ∃ ys y3, σ = [some (.ref a), some (.ref p), some v, y3] ∧ H4 p = some (.lst ys) ∧ DpAll K H4 ys ((((vs.take i).flatMap DVa.refs ++ (z.ats.take j).flatMap DAt.refs).foldl addR []).map DRef.d) ∧ Same H H4 ∧ H4 q = some (.lst zs) ∧ DpAll K H4 zs (z.ats.map DAt.d)) (.of hq3) ⟨ys, y3, rfl, s3 _ _ hp, ?_, s2.trans s3, hq3, hz⟩ (fun j σ H4 _ h => ?_) ?_ ?_
      · rw [List.take_zero, List.flatMap_nil, List.append_nil]
        exact (SeqKeep.of s3).dpAll hy
      · obtain ⟨_, _, _, _, _, _, h, _⟩ := h
        exact .of h
      · rintro j u σ H4 hu ⟨ys4, y4, rfl, hp4, hy4, s4, hq4, hz4⟩
        obtain ⟨d5, hd5, hud⟩ := DpAll.get hz4 hu
        rw [List.getElem?_map] at hd5
        cases hj : z.ats[j]? with
        | none =>
          rw [hj] at hd5
          cases hd5
        | some t =>
          rw [hj] at hd5
          cases hd5
          have e3 : (z.ats.take (j + 1)).flatMap DAt.refs = (z.ats.take j).flatMap DAt.refs ++ t.refs := by
            rw [List.take_add_one, hj, List.flatMap_append]
            simp
          obtain ⟨c0, ts, rfl, hSt, ht0⟩ := at_head _ hud
          walk_at "wp"
          rw [e3]
          refine ix_t hSt (atI_nat (j := 0) ht0) ⟨by decide, fun p6 np6 => ?_⟩
          have s6 := Same.new (o := .tup [V.str "object", V.str "promise"]) np6
          by_cases cc : Str.ofString t.kd ∈ ([("object" : Str), "promise"] : List Str)
          · refine in_yes [_, _] upd_same cc ?_
            obtain ⟨r, rfl, hr⟩ := refs_yes (ir_yes cc)
            rw [hr, ← List.append_assoc, List.foldl_append, show [r].foldl addR (((vs.take i).flatMap DVa.refs ++ (z.ats.take j).flatMap DAt.refs).foldl addR []) = addR (((vs.take i).flatMap DVa.refs ++ (z.ats.take j).flatMap DAt.refs).foldl addR []) r from rfl]
            have hle : (((vs.take i).flatMap DVa.refs ++ (z.ats.take j).flatMap DAt.refs).foldl addR []).length ≤ 1000 := by
              have h1 := addR_len ((vs.take i).flatMap DVa.refs ++ (z.ats.take j).flatMap DAt.refs) []
              have h2 : z.refs = (z.ats.take j).flatMap DAt.refs ++ (z.ats.drop j).flatMap DAt.refs := by rw [← List.flatMap_append, List.take_append_drop]; rfl
              rw [e2, e1, h2] at hbig
              simp only [List.length_append, List.length_nil] at h1 hbig
              omega
            have hp6 := s6 _ _ hp4
            have hy6 := (SeqKeep.of s6).dpAll hy4
            have hud6 := (SeqKeep.of s6).dp hud
            walk_at "wp"
            refine nin_refs hud6 hp6 hy6 ⟨_, rfl, ?_⟩
            by_cases c : r ∈ ((vs.take i).flatMap DVa.refs ++ (z.ats.take j).flatMap DAt.refs).foldl addR []
            · rw [decide_eq_true c, if_neg (by decide), addR_in c]
              exact ⟨ys4, _, rfl, hp6, hy6, s4.trans s6, s6 _ _ hq4, (SeqKeep.of s6).dpAll hz4⟩
            · rw [decide_eq_false c, if_pos (by decide), addR_out c]
              refine ⟨ty_lst (.of hp6), m_app hp6 (small1000000 (by rw [DpAll.length hy6, List.length_map]; omega)) ⟨_, _, rfl, upd_same, ?_, Same.put (s4.trans s6) np, ?_, ?_⟩⟩
              · rw [List.map_append]
                have t3 := tup_upd (zs := ys4 ++ [V.ref c0]) hp6
                exact DpAll.app (t3.dpAll (noLs_of nl_ref _) hy6) (.cons (t3.dp (nl_ref r) hud6) .nil)
              · rw [upd_ne qp]
                exact s6 _ _ hq4
              · exact (tup_upd hp6).dpAll (noLs_of nl_at _) ((SeqKeep.of s6).dpAll hz4)
          · refine in_no [_, _] upd_same cc ?_
            rw [refs_no (by rw [ir_no cc]; decide), List.append_nil]
            walk_at "wp"
            exact ⟨ys4, _, rfl, s6 _ _ hp4, (SeqKeep.of s6).dpAll hy4, s4.trans s6, s6 _ _ hq4, (SeqKeep.of s6).dpAll hz4⟩
      · rintro σ H4 ⟨ys4, y4, rfl, hp4, hy4, s4, hq4, hz4⟩
        rw [hzl, List.take_length] at hy4
        exact ⟨ys4, _, _, rfl, hp4, hy4, s4⟩
  · rintro σ H2 ⟨ys, y2, y3, rfl, hp, hy, s2⟩
    rw [hx, List.take_length] at hy
    walk_at "wp"
    exact k _ _ _ s2 np hp hy
theorem ok__law_shares_of (T : Txt K mg) : OkF P w K mg base CX0 "_law_shares_of" 3 ["box", "values"] (Sp2 fun a m H Q _ => ∃ b dl, ∃ vs : List DVa, a = .ref b ∧ Bb b dl H ∧ Dp K H m (.tuple (vs.map DVa.d)) ∧ vs.length ≤ 4 ∧ (∀ x ∈ vs, x.ok) ∧ ∀ v H' sh, Off (· = b) H H' → Bb b dl H' → Dp K H' v (.tuple (sh.map DWt.d)) → Sh vs sh → Q v H') := by
  refine mkF T.d__law_shares_of T.g__law_shares_of sc__law_shares_of bw__law_shares_of (fun vs H Q E h => l2 h) (fun cdv A outer s H vs Q E hr h => ?_)
  obtain ⟨_, m, rfl, b, dl, vs, rfl, B, hd, hn, hok, k⟩ := h
  refine ⟨_, PSs.nox ((pss_one (ps_ret (pe_callTy call_tuple_of (by rfl) T.n_tuple (by decide +kernel) (pa_cons (pe_lc (own := [("atom", 2)]) (g := gName 2) (tt := tYes) rfl sc__law_shares_of.nd (pi_list (fcall (ok__law_distinct T) (hr.mono (by decide)) pass0 (pa_cons (pv 1) pa_nil))) (blkOk_by (N := ["box", "values", "atom"]) (sc := defScope s__law_shares_of) (by decide +kernel)) (fun _ _ _ _ _ => pg_name (i := 2) sc__law_shares_of.nd rfl (Or.inl rfl)) (fun _ _ _ _ _ => pts_nil) (fun _ _ _ _ _ => (fcall (ok__law_weight T) (hr.mono (by decide)) pass0 (pa_cons (pv 0) pa_nil)))) pa_nil))))), ?_⟩
  walk_at "wp"
  refine ⟨vs, hd, hn, hok, fun p H1 ys s1 np hp hA => ?_⟩
  have B1 := B.keep s1
  have hle : (dist vs).length ≤ 1000 := by
    have h1 := refs_len vs hn hok
    have h2 := addR_len (vs.flatMap DVa.refs) []
    unfold dist
    simp only [List.length_nil] at h2
    omega
  have hyl : ys.length = (dist vs).length := by rw [DpAll.length hA, List.length_map]
  refine lcLx (K := K) DWt.d DWt.ok B1 hp (fun e => B.b0 (by rw [← e]; exact np)) nl_wt (by omega) (fun x H2 o2 B2 N kN => ?_) fun D H2 zs ds hl hp2 nD o2 B2 hD hA2 => ?_
  · walk_at "wp"
    exact ⟨trivial, gcall' B2 fun v H3 x o3 B3 dv hx => kN _ x _ o3 B3 dv hx⟩
  · refine ⟨D, zs, rfl, .inl ⟨.of hD, fun l nl => ?_⟩⟩
    exact k _ _ ds ((Off.trans (Off.of s1) o2).new nl) (B2.new nl) (dp_tup nl hA2) ⟨by omega, hp2⟩
theorem ok__law_message (T : Txt K mg) : OkF P w K mg base CX0 "_law_message" 6 ["box"] (spG K DMsg.d DMsg.ok) := by
  refine mkF T.d__law_message T.g__law_message sc__law_message bw__law_message (fun vs H Q E h => l1 h) (fun cdv A outer s H vs Q E hr h => ?_)
  obtain ⟨_, rfl, b, dl, rfl, B, k⟩ := h
  refine ⟨_, PSs.nox ((pss_cons (ps_set (i := 1) sc__law_message.nd rfl (by first | exact Or.inl rfl | exact Or.inr rfl) (pe_callTy call_tuple_of (by rfl) T.n_tuple (by decide +kernel) (pa_cons (pe_lc (own := [("k", 2)]) (g := gName 2) (tt := tYes) rfl sc__law_message.nd (pi_range1 (by rfl) T.n_range (pa_cons (fcall (ok__law_draw T) (hr.mono (by decide)) pass0 (pa_cons (pv 0) (pa_cons pe_int pa_nil))) pa_nil)) (blkOk_by (N := ["box", "arguments", "k", "method", "path"]) (sc := defScope s__law_message) (by decide +kernel)) (fun _ _ _ _ _ => pg_name (i := 2) sc__law_message.nd rfl (Or.inl rfl)) (fun _ _ _ _ _ => pts_nil) (fun _ _ _ _ _ => (fcall (ok__law_value T) (hr.mono (by decide)) pass0 (pa_cons (pv 0) pa_nil)))) pa_nil)))
    (pss_cons (ps_set (i := 3) sc__law_message.nd rfl (by first | exact Or.inl rfl | exact Or.inr rfl) (pe_join pe_str (pe_lc (own := [("k", 2)]) (g := gName 2) (tt := tYes) rfl sc__law_message.nd (pi_range1 (by rfl) T.n_range (pa_cons (pe_op op_add pe_int (fcall (ok__law_draw T) (hr.mono (by decide)) pass0 (pa_cons (pv 0) (pa_cons pe_int pa_nil)))) pa_nil)) (blkOk_by (N := ["box", "arguments", "k", "method", "path"]) (sc := defScope s__law_message) (by decide +kernel)) (fun _ _ _ _ _ => pg_name (i := 2) sc__law_message.nd rfl (Or.inl rfl)) (fun _ _ _ _ _ => pts_nil) (fun _ _ _ _ _ => (pe_ix ix_str pe_str (fcall (ok__law_draw T) (hr.mono (by decide)) pass0 (pa_cons (pv 0) (pa_cons pe_int pa_nil))) (fun _ _ => rfl))))))
    (pss_cons (ps_set (i := 4) sc__law_message.nd rfl (by first | exact Or.inl rfl | exact Or.inr rfl) (pe_callTy call_tuple_of (by rfl) T.n_tuple (by decide +kernel) (pa_cons (pe_lc (own := [("k", 2)]) (g := gName 2) (tt := tYes) rfl sc__law_message.nd (pi_range1 (by rfl) T.n_range (pa_cons (pe_op op_mul (fcall (ok__law_draw T) (hr.mono (by decide)) pass0 (pa_cons (pv 0) (pa_cons pe_int pa_nil))) (fcall (ok__law_draw T) (hr.mono (by decide)) pass0 (pa_cons (pv 0) (pa_cons pe_int pa_nil)))) pa_nil)) (blkOk_by (N := ["box", "arguments", "k", "method", "path"]) (sc := defScope s__law_message) (by decide +kernel)) (fun _ _ _ _ _ => pg_name (i := 2) sc__law_message.nd rfl (Or.inl rfl)) (fun _ _ _ _ _ => pts_nil) (fun _ _ _ _ _ => (fcall (ok__law_send T) (hr.mono (by decide)) pass0 (pa_cons (pv 0) pa_nil)))) pa_nil)))
    (pss_one (ps_ret (pe_tup (pa_cons (fcall (ok__law_send T) (hr.mono (by decide)) pass0 (pa_cons (pv 0) pa_nil)) (pa_cons (fcall (ok__law_reference T) (hr.mono (by decide)) pass0 (pa_cons (pv 0) pa_nil)) (pa_cons (fcall (ok__law_number T) (hr.mono (by decide)) pass0 (pa_cons (pv 0) pa_nil)) (pa_cons (pv 3) (pa_cons (pv 1) (pa_cons (pv 4) pa_nil))))))))))))), ?_⟩
  walk_at "wp"
  refine dcall 5 rfl (by decide) B fun H1 d1 o1 B1 h1 => ?_
  refine ⟨_, rfl, (rgb (by omega)).1, (rgb (by omega)).2, ?_⟩
  refine lcNx (K := K) DVa.d DVa.ok B1 nl_va (by omega) (fun i hi H4 o4 B4 N kN => ?_) fun D H4 ys ds hl hp nD o4 B4 hD hA => ?_
  · walk_at "wp"
    exact ⟨trivial, gcall' B4 fun v H5 x o5 B5 dv hx => kN _ x _ o5 B5 dv hx⟩
  refine ⟨D, ys, rfl, .inl ⟨.of hD, fun l nl => ⟨⟨_, rfl⟩, ?_⟩⟩⟩
  have dargs := dp_tup nl hA
  have B5 := B4.new (o := .tup ys) nl
  have o5 := (o1.trans o4).new (o := .tup ys) nl
  refine dcall 12 rfl (by decide) B5 fun H6 d6 o6 B6 h6 => ?_
  walk_at "wp"
  refine ⟨_, rfl, Int.le_trans (by decide : -(2 ^ 62 : Int) ≤ 0) (by omega), Int.lt_of_le_of_lt (by omega : (1 : Int) + d6 ≤ 20000000) (by decide), ?_⟩
  refine lcNx (K := K) (fun k => .str ⟨#[sgAt k]⟩) (fun k => 64 ≤ k ∧ k < 90) B6 (fun _ => rfl) (by omega) (fun i hi H7 o7 B7 N kN => ?_) fun D2 H7 ys2 ks hl2 hp2 nD2 o7 B7 hD2 hA2 => ?_
  · walk_at "wp"
    exact ⟨trivial, _, _, rfl, b, dl, 6, rfl, rfl, by decide, B7, fun H8 d8 o8 B8 h8 => ixabc h8 (kN _ (abcI d8) _ o8 B8 (.str _) (abcI_ok h8))⟩
  refine ⟨_, D2, ks.map fun k => ⟨#[sgAt k]⟩, rfl, rfl, .inl (sqL_signs hD2 hA2), ?_, ?_⟩
  · rw [strs_len, List.length_map]
    show _ + _ * 0 ≤ _
    omega
  rw [joinT]
  refine dcall 3 rfl (by decide) B7 fun H8 d8 o8 B8 h8 => ?_
  refine dcall 2 rfl (by decide) B8 fun H9 d9 o9 B9 h9 => ?_
  walk_at "wp"
  have hmul : d8 * d9 ≤ 2 * 1 := Nat.mul_le_mul (by omega) (by omega)
  rw [show ((d8 : Int) * (d9 : Int)) = ((d8 * d9 : Nat) : Int) by rw [Int.natCast_mul]]
  refine ⟨.inr (by omega), _, rfl, (rgb (by omega)).1, (rgb (by omega)).2, ?_⟩
  refine lcNx (K := K) DSd.d DSd.ok B9 nl_sd (by omega) (fun i hi H10 o10 B10 N kN => ?_) fun D3 H10 ys3 ps hl3 hp3 nD3 o10 B10 hD3 hA3 => ?_
  · walk_at "wp"
    exact ⟨trivial, gcall' B10 fun v H5 x o5 B5 dv hx => kN _ x _ o5 B5 dv hx⟩
  refine ⟨D3, ys3, rfl, .inl ⟨.of hD3, fun l2 nl2 => ?_⟩⟩
  have dpath := dp_tup nl2 hA3
  have B11 := B10.new (o := .tup ys3) nl2
  have o11 := (o6.trans (o7.trans (o8.trans (o9.trans o10)))).new (o := .tup ys3) nl2
  have dargs2 := (B5.tup o11).dp (nl_vas _) dargs
  refine gcall' B11 fun v1 H12 x1 o12 B12 e1 q1 => ?_
  refine gcall' B12 fun v2 H13 x2 o13 B13 e2 q2 => ?_
  refine gcall' B13 fun v3 H14 x3 o14 B14 e3 q3 => ⟨by decide, fun q nq => ?_⟩
  have t1 := B11.tup (o12.trans (o13.trans o14))
  refine k _ _ ⟨x1, x2, x3, ks, ds, ps⟩ ((o5.trans (o11.trans (o12.trans (o13.trans o14)))).new nq) (B14.new nq) (dp_tup nq ?_) ⟨q1, q2, q3, ⟨hp2, by show 1 ≤ ks.length; omega, by show ks.length ≤ 12; omega⟩, ⟨by show ds.length ≤ 4; omega, hp⟩, ⟨by show ps.length ≤ 200; omega, hp3⟩⟩
  exact .cons ((B12.tup (o13.trans o14)).dp (nl_sd _) e1) (.cons ((B13.tup o14).dp (nl_ref _) e2) (.cons e3 (.cons (.str _) (.cons (t1.dp (nl_vas _) dargs2) (.cons (t1.dp (nl_sds _) dpath) .nil)))))
theorem ok__law_drawn_content (T : Txt K mg) : OkF P w K mg base CX0 "_law_drawn_content" 7 ["box"] (spG K DCo.d DCo.ok) := by
  refine mkF T.d__law_drawn_content T.g__law_drawn_content sc__law_drawn_content bw__law_drawn_content (fun vs H Q E h => l1 h) (fun cdv A outer s H vs Q E hr h => ?_)
  obtain ⟨_, rfl, b, dl, rfl, B, k⟩ := h
  refine ⟨_, PSs.nox ((pss_cons (ps_set (i := 1) sc__law_drawn_content.nd rfl (by first | exact Or.inl rfl | exact Or.inr rfl) (fcall (ok__law_draw T) (hr.mono (by decide)) pass0 (pa_cons (pv 0) (pa_cons pe_int pa_nil))))
    (pss_cons (ps_set (i := 2) sc__law_drawn_content.nd rfl (by first | exact Or.inl rfl | exact Or.inr rfl) (fcall (ok__law_value T) (hr.mono (by decide)) pass0 (pa_cons (pv 0) pa_nil)))
    (pss_cons (ps_set (i := 3) sc__law_drawn_content.nd rfl (by first | exact Or.inl rfl | exact Or.inr rfl) (fcall (ok__law_string T) (hr.mono (by decide)) pass0 (pa_cons (pv 0) (pa_cons pe_int pa_nil))))
    (pss_cons (ps_if (pt_cmpR op_lt (pv 1) pe_int (nomark _))
      (pss_cons (ps_set (i := 4) sc__law_drawn_content.nd rfl (by first | exact Or.inl rfl | exact Or.inr rfl) (fcall (ok__law_message T) (hr.mono (by decide)) pass0 (pa_cons (pv 0) pa_nil)))
    (pss_cons (ps_set (i := 5) sc__law_drawn_content.nd rfl (by first | exact Or.inl rfl | exact Or.inr rfl) (pe_lst (pa_cons (pe_tup (pa_cons pe_str (pa_cons (fcall (ok__law_number T) (hr.mono (by decide)) pass0 (pa_cons (pv 0) pa_nil)) pa_nil))) (pa_cons (pe_tup (pa_cons pe_str (pa_cons (fcall (ok__law_number T) (hr.mono (by decide)) pass0 (pa_cons (pv 0) pa_nil)) pa_nil))) (pa_cons (pe_tup (pa_cons pe_str (pa_cons (pe_op op_add pe_int (fcall (ok__law_draw T) (hr.mono (by decide)) pass0 (pa_cons (pv 0) (pa_cons pe_int pa_nil)))) (pa_cons (fcall (ok__law_number T) (hr.mono (by decide)) pass0 (pa_cons (pv 0) pa_nil)) pa_nil)))) pa_nil)))))
    (pss_cons (ps_set (i := 6) sc__law_drawn_content.nd rfl (by first | exact Or.inl rfl | exact Or.inr rfl) (fcall (ok__law_number T) (hr.mono (by decide)) pass0 (pa_cons (pv 0) pa_nil)))
    (pss_one (ps_ret (pe_tup (pa_cons pe_str (pa_cons (pv 4) (pa_cons (pe_ix ix_list (pv 5) (fcall (ok__law_draw T) (hr.mono (by decide)) pass0 (pa_cons (pv 0) (pa_cons pe_int pa_nil))) (fun _ _ => rfl)) (pa_cons (fcall (ok__law_weight T) (hr.mono (by decide)) pass0 (pa_cons (pv 0) pa_nil)) (pa_cons (pv 6) (pa_cons (fcall (ok__law_shares_of T) (hr.mono (by decide)) pass0 (pa_cons (pv 0) (pa_cons (pe_ix ix_tup (pv 4) pe_int (fun _ _ => rfl)) pa_nil))) pa_nil))))))))))))
      pss_nil)
    (pss_cons (ps_if (pt_cmpR op_lt (pv 1) pe_int (nomark _))
      (pss_one (ps_ret (pe_tup (pa_cons (pe_ix ix_list (pe_lst (pa_cons pe_str (pa_cons pe_str pa_nil))) (pe_op op_mod (pe_callTy call_int1 (by rfl) T.n_int (by decide +kernel) (pa_cons (pv 1) pa_nil)) pe_int) (fun _ _ => rfl)) (pa_cons (fcall (ok__law_number T) (hr.mono (by decide)) pass0 (pa_cons (pv 0) pa_nil)) (pa_cons (pv 2) (pa_cons (fcall (ok__law_shares_of T) (hr.mono (by decide)) pass0 (pa_cons (pv 0) (pa_cons (pe_tup (pa_cons (pv 2) pa_nil)) pa_nil))) pa_nil)))))))
      pss_nil)
    (pss_cons (ps_if (pt_cmpR op_lt (pv 1) pe_int (nomark _))
      (pss_one (ps_ret (pe_tup (pa_cons (pe_ix ix_list (pe_lst (pa_cons pe_str (pa_cons pe_str pa_nil))) (pe_op op_mod (pe_callTy call_int1 (by rfl) T.n_int (by decide +kernel) (pa_cons (pv 1) pa_nil)) pe_int) (fun _ _ => rfl)) (pa_cons (fcall (ok__law_number T) (hr.mono (by decide)) pass0 (pa_cons (pv 0) pa_nil)) (pa_cons (pv 3) pa_nil))))))
      pss_nil)
    (pss_cons (ps_if (pt_cmpR op_eq (pv 1) pe_int (nomark _))
      (pss_one (ps_ret (pe_tup (pa_cons pe_str (pa_cons (fcall (ok__law_number T) (hr.mono (by decide)) pass0 (pa_cons (pv 0) pa_nil)) (pa_cons (fcall (ok__law_weight T) (hr.mono (by decide)) pass0 (pa_cons (pv 0) pa_nil)) pa_nil))))))
      pss_nil)
    (pss_cons (ps_if (pt_cmpR op_eq (pv 1) pe_int (nomark _))
      (pss_one (ps_ret (pe_tup (pa_cons pe_str (pa_cons (fcall (ok__law_reference T) (hr.mono (by decide)) pass0 (pa_cons (pv 0) pa_nil)) (pa_cons (fcall (ok__law_weight T) (hr.mono (by decide)) pass0 (pa_cons (pv 0) pa_nil)) pa_nil))))))
      pss_nil)
    (pss_cons (ps_if (pt_cmpR op_eq (pv 1) pe_int (nomark _))
      (pss_one (ps_ret (pe_tup (pa_cons pe_str (pa_cons (fcall (ok__law_number T) (hr.mono (by decide)) pass0 (pa_cons (pv 0) pa_nil)) (pa_cons (fcall (ok__law_weight T) (hr.mono (by decide)) pass0 (pa_cons (pv 0) pa_nil)) pa_nil))))))
      pss_nil)
    (pss_one (ps_ret (pe_tup (pa_cons pe_str (pa_cons (pv 2) (pa_cons (fcall (ok__law_shares_of T) (hr.mono (by decide)) pass0 (pa_cons (pv 0) (pa_cons (pe_tup (pa_cons (pv 2) pa_nil)) pa_nil))) pa_nil)))))))))))))))), ?_⟩
  walk_at "wp"
  refine dcall 12 rfl (by decide) B fun H1 d1 o1 B1 h1 => ?_
  refine gcall' B1 fun v2 H2 x2 o2 B2 e2 q2 => ?_
  refine ⟨b, dl, rfl, True.intro, B2, fun v3 H3 ks o3 B3 e3 q3 => ?_⟩
  have o13 := o1.trans (o2.trans o3)
  have e2' := (B2.tup o3).dp (nl_va _) e2
  walk_at "wp"
  split
  · refine gcall' B3 fun vm H4 m o4 B4 em qm => ?_
    refine gcall' B4 fun vn H5 n1 o5 B5 en1 qn1 => ⟨by decide, fun p np => ?_⟩
    have D1 : Dp K (upd H5 p (.tup [V.str "object", vn])) (.ref p) (DTg.obj n1).d := dp_tup np (.cons (.str _) (.cons en1 .nil))
    have B5' := B5.new (o := .tup [V.str "object", vn]) np
    have o5' := o5.new (o := .tup [V.str "object", vn]) np
    refine gcall' B5' fun vn2 H6 n2 o6 B6 en2 qn2 => ⟨by decide, fun p1 np1 => ?_⟩
    have D2 : Dp K (upd H6 p1 (.tup [V.str "promise", vn2])) (.ref p1) (DTg.prom n2).d := dp_tup np1 (.cons (.str _) (.cons en2 .nil))
    have B6' := B6.new (o := .tup [V.str "promise", vn2]) np1
    have o6' := o6.new (o := .tup [V.str "promise", vn2]) np1
    refine dcall 9 rfl (by decide) B6' fun H7 d7 o7 B7 h7 => ?_
    walk_at "wp"
    refine gcall' B7 fun vn3 H8 n3 o8 B8 en3 qn3 => ⟨by decide, fun p2 np2 => ⟨by decide, fun p3 np3 => ?_⟩⟩
    have D3 : Dp K (upd H8 p2 (.tup [V.str "answer", .int (1 + (d7 : Int)), vn3])) (.ref p2) (DTg.ans (d7 + 1) n3).d := dp_tup np2 (.cons (.str _) (.cons (by rw [pN, dI, show (1 + (d7 : Int)) = ((d7 + 1 : Nat) : Int) by omega]) (.cons en3 .nil)))
    have B8' := B8.new (o := .tup [V.str "answer", .int (1 + (d7 : Int)), vn3]) np2
    have o8' := o8.new (o := .tup [V.str "answer", .int (1 + (d7 : Int)), vn3]) np2
    have B9 := B8'.new (o := .lst [V.ref p, V.ref p1, V.ref p2]) np3
    have o9 := o8'.new (o := .lst [V.ref p, V.ref p1, V.ref p2]) np3
    have pb : p3 ≠ b := fun e => B8'.b0 (by rw [← e]; exact np3)
    have D3' := (SeqKeep.of (Same.new (o := .lst [V.ref p, V.ref p1, V.ref p2]) np3)).dp D3
    refine gcall' B9 fun vq H10 q o10 B10 eq10 qq => ?_
    refine dcall 3 rfl (by decide) B10 fun H11 d11 o11 B11 h11 => ?_
    have ht : ∃ v, ∃ tg : DTg, ([V.ref p, V.ref p1, V.ref p2] : List V)[d11]? = some v ∧ Dp K H11 v tg.d ∧ tg.ok := by
      have : d11 = 0 ∨ d11 = 1 ∨ d11 = 2 := by omega
      rcases this with rfl | rfl | rfl
      · exact ⟨_, .obj n1, rfl, (B5'.tup (o6'.trans (o7.trans (o9.trans (o10.trans o11))))).dp (nl_tg _) D1, qn1⟩
      · exact ⟨_, .prom n2, rfl, (B6'.tup (o7.trans (o9.trans (o10.trans o11)))).dp (nl_tg _) D2, qn2⟩
      · exact ⟨_, .ans (d7 + 1) n3, rfl, (B9.tup (o10.trans o11)).dp (nl_tg _) D3', ⟨by omega, by omega⟩, qn3⟩
    obtain ⟨tv, tg, htv, htd, htok⟩ := ht
    refine ix_l (.of (o11 p3 _ pb (o10 p3 _ pb upd_same))) (atI_nat htv) ?_
    refine gcall' B11 fun vw H12 w o12 B12 ew qw => ?_
    have oz := o5'.trans (o6'.trans (o7.trans (o9.trans (o10.trans (o11.trans o12)))))
    have em' := (B4.tup oz).dp (nl_msg _) em
    obtain ⟨a, y1, y2, y3, y4, y5, y6, rfl, hS, g1, g2, g3, g4, g5, g6⟩ := dT6 em'
    refine ix_t hS rfl ⟨b, dl, m.args, rfl, B12, g5, qm.2.2.2.2.1.1, qm.2.2.2.2.1.2, fun vs H14 sh o14 B14 es hsh => ⟨by decide, fun z nz => ?_⟩⟩
    have t14 := B12.tup o14
    refine k _ _ (.message m tg w q sh) ((o13.trans (o4.trans (oz.trans o14))).new nz) (B14.new nz) (dp_tup nz ?_) ⟨qm, htok, qw, qq, hsh⟩
    exact .cons (.str _) (.cons (t14.dp (nl_msg _) em') (.cons ((B11.tup (o12.trans o14)).dp (nl_tg _) htd) (.cons (t14.dp (nl_wt _) ew) (.cons ((B10.tup (o11.trans (o12.trans o14))).dp rfl eq10) (.cons es .nil)))))
  split
  · refine ⟨by decide, fun p np => .inl ⟨_, rfl, by decide, ?_⟩⟩
    have B4 := B3.new (o := .lst [V.str "fulfill", V.str "resolved"]) np
    have o4 := o13.new (o := .lst [V.str "fulfill", V.str "resolved"]) np
    have e2'' := (SeqKeep.of (Same.new (o := .lst [V.str "fulfill", V.str "resolved"]) np)).dp e2'
    have h45 : d1 = 4 ∨ d1 = 5 := by omega
    have hr5 : ∃ rr : Bool, atI [V.str "fulfill", V.str "resolved"] ((d1 : Int) % 2) = some (.str (if rr then "resolved" else "fulfill")) := by
      rcases h45 with rfl | rfl
      · exact ⟨false, rfl⟩
      · exact ⟨true, rfl⟩
    obtain ⟨rr, hrr⟩ := hr5
    refine ix_l (.of upd_same) hrr ?_
    refine gcall' B4 fun vn H5 n o5 B5 en qn => ⟨by decide, fun p2 np2 => ?_⟩
    have B5' := B5.new (o := .tup [v2]) np2
    have o5' := o5.new (o := .tup [v2]) np2
    have e5 := (B4.tup o5).dp (nl_va _) e2''
    refine ⟨b, dl, [x2], rfl, B5', dp_tup np2 (.cons e5 .nil), (by decide : 1 ≤ 4), (fun y hy => by rw [List.mem_singleton.mp hy]; exact q2), fun vs H14 sh o14 B14 es hsh => ⟨by decide, fun z nz => ?_⟩⟩
    have t14 := B5'.tup o14
    have s5 := SeqKeep.of (Same.new (o := .tup [v2]) np2)
    refine k _ _ (.fulfill rr n x2 sh) ((o4.trans (o5'.trans o14)).new nz) (B14.new nz) (dp_tup nz ?_) ⟨qn, q2, hsh⟩
    exact .cons (by rw [dS]) (.cons (t14.dp rfl (s5.dp en)) (.cons (t14.dp (nl_va _) (s5.dp e5)) (.cons es .nil)))
  split
  · refine ⟨by decide, fun p np => .inl ⟨_, rfl, by decide, ?_⟩⟩
    have B4 := B3.new (o := .lst [V.str "break", V.str "resolved_broken"]) np
    have o4 := o13.new (o := .lst [V.str "break", V.str "resolved_broken"]) np
    have e3'' := (SeqKeep.of (Same.new (o := .lst [V.str "break", V.str "resolved_broken"]) np)).dp e3
    have h45 : d1 = 6 ∨ d1 = 7 := by omega
    have hr5 : ∃ rr : Bool, atI [V.str "break", V.str "resolved_broken"] ((d1 : Int) % 2) = some (.str (if rr then "resolved_broken" else "break")) := by
      rcases h45 with rfl | rfl
      · exact ⟨false, rfl⟩
      · exact ⟨true, rfl⟩
    obtain ⟨rr, hrr⟩ := hr5
    refine ix_l (.of upd_same) hrr ?_
    refine gcall' B4 fun vn H5 n o5 B5 en qn => ⟨by decide, fun z nz => ?_⟩
    refine k _ _ (.brk rr n ks) ((o4.trans o5).new nz) (B5.new nz) (dp_tup nz ?_) ⟨qn, q3.1, q3.2⟩
    exact .cons (by rw [dS]) (.cons en (.cons ((B4.tup o5).dp rfl e3'') .nil))
  split
  · refine gcall' B3 fun vn H5 n o5 B5 en qn => ?_
    refine gcall' B5 fun vw H6 w o6 B6 ew qw => ⟨by decide, fun z nz => ?_⟩
    exact k _ _ (.subscribe n w) ((o13.trans (o5.trans o6)).new nz) (B6.new nz) (dp_tup nz (.cons (.str _) (.cons ((B5.tup o6).dp rfl en) (.cons ew .nil)))) ⟨qn, qw⟩
  split
  · refine gcall' B3 fun vn H5 r o5 B5 en qn => ?_
    refine gcall' B5 fun vw H6 w o6 B6 ew qw => ⟨by decide, fun z nz => ?_⟩
    exact k _ _ (.release r w) ((o13.trans (o5.trans o6)).new nz) (B6.new nz) (dp_tup nz (.cons (.str _) (.cons ((B5.tup o6).dp (nl_ref _) en) (.cons ew .nil)))) ⟨qn, qw⟩
  split
  · refine gcall' B3 fun vn H5 n o5 B5 en qn => ?_
    refine gcall' B5 fun vw H6 w o6 B6 ew qw => ⟨by decide, fun z nz => ?_⟩
    exact k _ _ (.relans n w) ((o13.trans (o5.trans o6)).new nz) (B6.new nz) (dp_tup nz (.cons (.str _) (.cons ((B5.tup o6).dp rfl en) (.cons ew .nil)))) ⟨qn, qw⟩
  · refine ⟨by decide, fun p2 np2 => ?_⟩
    have B5' := B3.new (o := .tup [v2]) np2
    have o5' := o13.new (o := .tup [v2]) np2
    have s5 := SeqKeep.of (Same.new (o := .tup [v2]) np2)
    refine ⟨b, dl, [x2], rfl, B5', dp_tup np2 (.cons e2' .nil), (by decide : 1 ≤ 4), (fun y hy => by rw [List.mem_singleton.mp hy]; exact q2), fun vs H14 sh o14 B14 es hsh => ⟨by decide, fun z nz => ?_⟩⟩
    have t14 := B5'.tup o14
    refine k _ _ (.transfer x2 sh) ((o5'.trans o14).new nz) (B14.new nz) (dp_tup nz ?_) ⟨q2, hsh⟩
    exact .cons (.str _) (.cons (t14.dp (nl_va _) (s5.dp e2')) (.cons es .nil))
end
end Kt
set_option Elab.async false
set_option linter.all false
set_option maxRecDepth 100000
set_option maxHeartbeats 4000000
namespace Kt
open PySem PySem.Spec PyProof.Rows L2 Vl
local macro_rules | `(tactic| walk_at "wp") => `(tactic| simp only [L2.start, cxK, a_seq, a_next, a_asg, a_ret, a_retN, a_drop, a_ifS, a_break, a_cont, a_c, a_op, a_un, a_nil, a_cons, a_tup, a_lst, a_call, a_meth, a_make, a_cb, a_bm0, a_m1, a_bm, a_fld, a_sfld, a_sfldAug, a_aug, a_test, a_tB, a_and, a_or, a_not, a_if, a_sl, a_noPart, a_part,
  a_for, a_iTup, a_iList, a_iStr, a_iRng1, a_iRng2, rng1, rng2, a_lc, a_yes, a_gTup, a_gCons, a_gNil, a_gSub, wipe, List.set_cons_zero, List.set_cons_succ,
  v0, v1, v2, v3, v4, v5, v6, v7, v8, v9, v10, n0, n1, n2, n3, n4, n5, n6, n7, n8, n9, n10, i_0, i_c, i_u, e_i, e_s, e_b, e_n, ne_i, ne_s, ne_b, tst, tsi, tss, tsr, Vl.s0, Vl.s1, Vl.s2, Vl.s3, Vl.s4, Vl.s5, List.map_cons, List.map_nil, List.length_cons, List.length_nil, List.replicate, List.cons_append, List.nil_append, Nat.reduceAdd, Nat.reduceSub, decide_eq_true_eq, ofS, String.reduceEq, decide_true, decide_false, Bool.false_eq_true, Bool.not_true, Bool.not_false, if_true, if_false])
local macro_rules | `(tactic| walk_at "wk") => `(tactic| simp only [L2.start, cxK, a_seq, a_next, a_asg, a_ret, a_retN, a_drop, a_ifS, a_break, a_cont, a_c, q_eq, q_ne, q_in, q_ix, q_i0, q_iC, a_un, a_nil, a_cons, a_tup, a_meth, a_make, a_cb, a_bm0, a_m1, a_bm, a_fld, a_sfld, a_sfldAug, a_aug, a_test, a_tB, a_and, a_or, a_not, a_if, a_sl, a_noPart, a_part,
  a_for, a_iTup, a_iList, a_iStr, a_iRng1, a_iRng2, rng1, rng2, a_lc, a_yes, a_gTup, a_gCons, a_gNil, a_gSub, wipe, List.set_cons_zero, List.set_cons_succ,
  v0, v1, v2, v3, v4, v5, v6, v7, v8, v9, v10, n0, n1, n2, n3, n4, n5, n6, n7, n8, n9, n10, i_0, i_c, i_u, e_i, e_s, e_b, e_n, ne_i, ne_s, ne_b, tst, tsi, tss, tsr, Vl.s0, Vl.s1, Vl.s2, Vl.s3, Vl.s4, Vl.s5, List.map_cons, List.map_nil, List.length_cons, List.length_nil, List.replicate, List.cons_append, List.nil_append, Nat.reduceAdd, Nat.reduceSub, decide_eq_true_eq, ofS, String.reduceEq, decide_true, decide_false, Bool.false_eq_true, Bool.not_true, Bool.not_false, if_true, if_false])
section
variable {P : Program} {w : World} {K : PySem.W.Frag} {mg : Str → Option Value} {base : Heap}
theorem ok__law_program (T : Txt K mg) : OkF P w K mg base CX0 "_law_program" 2 ["box"] (spG K pS (fun ks => Tn ks ∧ ks.length ≤ 4000)) := by
  refine mkF T.d__law_program T.g__law_program sc__law_program bw__law_program (fun vs H Q E h => l1 h) (fun cdv A outer s H vs Q E hr h => ?_)
  obtain ⟨_, rfl, b, dl, rfl, B, k⟩ := h
  refine ⟨_, PSs.nox ((pss_cons (ps_set (i := 1) sc__law_program.nd rfl (by first | exact Or.inl rfl | exact Or.inr rfl) (fcall0 (ok__law_signs T) (hr.mono (by decide)) pass0))
    (pss_cons (ps_set (i := 2) sc__law_program.nd rfl (by first | exact Or.inl rfl | exact Or.inr rfl) (fcall (ok__law_draw T) (hr.mono (by decide)) pass0 (pa_cons (pv 0) (pa_cons pe_int pa_nil))))
    (pss_cons (ps_set (i := 3) sc__law_program.nd rfl (by first | exact Or.inl rfl | exact Or.inr rfl) (pe_ix ix_list (pe_lst (pa_cons pe_int (pa_cons (pe_op op_add pe_int (fcall (ok__law_draw T) (hr.mono (by decide)) pass0 (pa_cons (pv 0) (pa_cons pe_int pa_nil)))) (pa_cons (pe_op op_add pe_int (fcall (ok__law_draw T) (hr.mono (by decide)) pass0 (pa_cons (pv 0) (pa_cons pe_int pa_nil)))) pa_nil)))) (pe_callB (call_min2 rfl) (by rfl) T.n_min (by decide +kernel) (pa_cons (pv 2) (pa_cons pe_int pa_nil))) (fun _ _ => rfl)))
    (pss_cons (ps_set (i := 4) sc__law_program.nd rfl (by first | exact Or.inl rfl | exact Or.inr rfl) (fcall (ok__law_draw T) (hr.mono (by decide)) pass0 (pa_cons (pv 0) (pa_cons pe_int pa_nil))))
    (pss_cons (ps_set (i := 5) sc__law_program.nd rfl (by first | exact Or.inl rfl | exact Or.inr rfl) (pe_op op_add pe_int (fcall (ok__law_draw T) (hr.mono (by decide)) pass0 (pa_cons (pv 0) (pa_cons pe_int pa_nil)))))
    (pss_cons (ps_set (i := 6) sc__law_program.nd rfl (by first | exact Or.inl rfl | exact Or.inr rfl) (pe_lst (pa_cons pe_str pa_nil)))
    (pss_cons (ps_for PassesOwn.never rfl (pi_range1 (by rfl) T.n_range (pa_cons (pv 3) pa_nil)) (pg_name (i := 7) sc__law_program.nd rfl (by first | exact Or.inl rfl | exact Or.inr rfl))
      (pss_cons (ps_if (pt_cmpR op_eq (pe_op op_mod (pe_callTy call_int1 (by rfl) T.n_int (by decide +kernel) (pa_cons (pv 7) pa_nil)) pe_int) pe_int (nomark _))
      (pss_one (ps_expr (pe_bm PySem.F.plainAttrs_list PySem.F.slot_list_append PySem.F.type_list_append mt_append (pv 6) (pa_cons (pe_op op_add_str (pe_op op_add_str pe_str (pe_ix ix_str pe_str (pe_op op_fdiv (pv 7) pe_int) (fun _ _ => rfl))) pe_str) pa_nil))))
      pss_nil)
    (pss_one (ps_expr (pe_bm PySem.F.plainAttrs_list PySem.F.slot_list_append PySem.F.type_list_append mt_append (pv 6) (pa_cons (pe_op op_add_str pe_str (pe_join pe_str (pe_lc (own := [("place", 8)]) (g := gName 8) (tt := tYes) rfl sc__law_program.nd (pi_range1 (by rfl) T.n_range (pa_cons pe_int pa_nil)) (blkOk_by (N := ["box", "signs", "kind", "size", "first", "step", "lines", "k", "place"]) (sc := defScope s__law_program) (by decide +kernel)) (fun _ _ _ _ _ => pg_name (i := 8) sc__law_program.nd rfl (Or.inl rfl)) (fun _ _ _ _ _ => pts_nil) (fun _ _ _ _ _ => (pe_ix ix_str (pv 1) (pe_op op_mod (pe_callTy call_int1 (by rfl) T.n_int (by decide +kernel) (pa_cons (pe_op op_add (pv 4) (pe_op op_mul (pe_op op_add (pe_op op_mul (pv 7) pe_int) (pv 8)) (pv 5))) pa_nil)) pe_int) (fun _ _ => rfl)))))) pa_nil))))))
    (pss_cons (ps_if (pt_cmpR op_eq (pv 2) pe_int (nomark _))
      (pss_one (ps_set (i := 6) sc__law_program.nd rfl (by first | exact Or.inl rfl | exact Or.inr rfl) (pe_op op_cat (pe_op op_cat (pe_op op_cat (pv 6) (pe_lst (pa_cons pe_str (pa_cons pe_str pa_nil)))) (pe_op op_rep (pe_lst (pa_cons (pe_op op_add_str pe_str (pe_op op_mulS pe_str pe_int)) pa_nil)) pe_int)) (pe_lst (pa_cons (pe_op op_add_str pe_str (pe_op op_mulS pe_str pe_int)) pa_nil)))))
      pss_nil)
    (pss_one (ps_ret (pe_op op_add_str (pe_join pe_str (pv 6)) pe_str)))))))))))), ?_⟩
  walk_at "wp"
  refine dcall 6 rfl (by decide) B fun H1 d1 o1 B1 h1 => ?_
  refine dcall 128 rfl (by decide) B1 fun H2 d2 o2 B2 h2 => ?_
  walk_at "wp"
  refine dcall 9 rfl (by decide) B2 fun H3 d3 o3 B3 h3 => ?_
  walk_at "wp"
  refine ⟨by decide, fun p np => ⟨_, _, rfl, ?_⟩⟩
  have B4 := B3.new (o := .lst [.int 128, .int (1 + (d2 : Int)), .int (1 + (d3 : Int))]) np
  have o4 := (o1.trans (o2.trans o3)).new (o := .lst [.int 128, .int (1 + (d2 : Int)), .int (1 + (d3 : Int))]) np
  have hsz : ∃ n : Nat, n ≤ 128 ∧ atI [V.int 128, .int (1 + (d2 : Int)), .int (1 + (d3 : Int))] (if (2 : Int) < (d1 : Int) then 2 else (d1 : Int)) = some (.int (n : Nat)) := by
    have : d1 = 0 ∨ d1 = 1 ∨ d1 = 2 ∨ d1 = 3 ∨ d1 = 4 ∨ d1 = 5 := by omega
    have e2 : V.int (1 + (d2 : Int)) = V.int ((d2 + 1 : Nat) : Int) := by rw [show (1 + (d2 : Int)) = ((d2 + 1 : Nat) : Int) by omega]
    have e3 : V.int (1 + (d3 : Int)) = V.int ((d3 + 1 : Nat) : Int) := by rw [show (1 + (d3 : Int)) = ((d3 + 1 : Nat) : Int) by omega]
    rcases this with rfl | rfl | rfl | rfl | rfl | rfl
    · exact ⟨128, by decide, rfl⟩
    · exact ⟨d2 + 1, by omega, by rw [e2]; rfl⟩
    · exact ⟨d3 + 1, by omega, by rw [e3]; rfl⟩
    · exact ⟨d3 + 1, by omega, by rw [e3]; rfl⟩
    · exact ⟨d3 + 1, by omega, by rw [e3]; rfl⟩
    · exact ⟨d3 + 1, by omega, by rw [e3]; rfl⟩
  obtain ⟨n, hn, hni⟩ := hsz
  refine ix_l (.of upd_same) hni ?_
  refine dcall 94 rfl (by decide) B4 fun H5 d5 o5 B5 h5 => ?_
  refine dcall 93 rfl (by decide) B5 fun H6 d6 o6 B6 h6 => ?_
  walk_at "wp"
  refine ⟨by decide, fun q nq => ⟨_, rfl, (rgb (by omega)).1, (rgb (by omega)).2, ?_⟩⟩
  have qb : q ≠ b := fun e => B6.b0 (by rw [← e]; exact nq)
  have qd : q ≠ dl := fun e => B6.d0 (by rw [← e]; exact nq)
  have B7 := B6.new (o := .lst [V.str "class a 0"]) nq
  have o7 := (o4.trans (o5.trans o6)).new (o := .lst [V.str "class a 0"]) nq
  refine forN (fun i σ H7 => ∃ ls y7 y8, σ = [some (.ref b), some (.str charsS), some (.int (d1 : Nat)), some (.int (n : Nat)), some (.int (d5 : Nat)), some (.int (1 + (d6 : Int))), some (.ref q), y7, y8] ∧ Off (· = b) H H7 ∧ Bb b dl H7 ∧ H7 q = some (.lst (vl ls)) ∧ (∀ l ∈ ls, Tn l) ∧ ls ≠ [] ∧ tot ls ≤ 10 + 27 * i + 11 * ((i + 15) / 16))
    ⟨[[66, 75, 64, 82, 82, 0, 64, 0, 15]], none, none, rfl, o7, B7, by rw [upd_same, clsA]; rfl, fun l hl => by rw [List.mem_singleton.mp hl]; exact tnl _ (by decide), by simp, by decide⟩ ?_ ?_
  · rintro i σ H7 hi ⟨ls, y7, y8, rfl, oi, Bi, hq, hT, hne, htot⟩
    have hi2 : i < 128 := by omega
    have lq := len_tot ls
    have nqH : H q = none := by
      cases hh : H q with
      | none => rfl
      | some o =>
        have := (o4.trans (o5.trans o6)) q o qb hh
        rw [nq] at this
        cases this
    walk_at "wp"
    refine .inl ⟨_, rfl, by decide, ?_⟩
    by_cases c : (0 + (i : Int)) % 16 = 0
    · rw [if_pos c]
      have e16 : (0 + (i : Int)) / 16 = ((i / 16 : Nat) : Int) := by omega
      rw [e16]
      refine ⟨ty_lst (.of hq), ⟨by decide, by decide⟩, ixmno (by omega) ?_⟩
      rw [metS, sp0S]
      refine ⟨_, _, rfl, rfl, by rw [ofIx_len]; exact (by decide : 7 + 1 ≤ sizeLine), ?_⟩
      rw [ofIx_snoc]
      refine ⟨_, _, rfl, rfl, by rw [ofIx_len, ofIx_len]; exact (by decide : 8 + 2 ≤ sizeLine), ?_⟩
      rw [ofIx_app]
      refine m_app hq (small1000000 (by rw [vl_len]; omega)) ?_
      have hq7 : (upd H7 q (.lst (vl ls ++ [V.str (ofIx ([76, 68, 83, 71, 78, 67, 0] ++ [76 + i / 16] ++ [0, 15]))]))) q = some (.lst (vl (ls ++ [[76, 68, 83, 71, 78, 67, 0] ++ [76 + i / 16] ++ [0, 15]]))) := by
        rw [upd_same, vl_app]
        rfl
      have ot : Off (· = b) H (upd H7 q (.lst (vl ls ++ [V.str (ofIx ([76, 68, 83, 71, 78, 67, 0] ++ [76 + i / 16] ++ [0, 15]))]))) := Off.put oi nqH
      have Bt : Bb b dl (upd H7 q (.lst (vl ls ++ [V.str (ofIx ([76, 68, 83, 71, 78, 67, 0] ++ [76 + i / 16] ++ [0, 15]))]))) := Bi.upd (Ne.symm qb) (Ne.symm qd)
      have hTt : ∀ l ∈ ls ++ [[76, 68, 83, 71, 78, 67, 0] ++ [76 + i / 16] ++ [0, 15]], Tn l := by
        intro l hl2
        rcases List.mem_append.mp hl2 with h | h
        · exact hT l h
        · rw [List.mem_singleton.mp h]
          intro k hk
          rcases List.mem_append.mp hk with h | h
          · rcases List.mem_append.mp h with h | h
            · exact tnl [76, 68, 83, 71, 78, 67, 0] (by decide) k h
            · rw [List.mem_singleton.mp h]
              omega
          · exact tnl [0, 15] (by decide) k h
      have tt : tot (ls ++ [[76, 68, 83, 71, 78, 67, 0] ++ [76 + i / 16] ++ [0, 15]]) = tot ls + 11 := by
        rw [tot_app, tot_one]
        rfl
      refine ⟨ty_lst (.of hq7), ⟨_, rfl⟩, _, rfl, by decide, by decide, ?_⟩
      refine lcNx (K := K) (fun k => .str ⟨#[sgAt k]⟩) (· < 94) Bt (fun _ => rfl) (by decide) (fun j hj H8 o8 B8 N kN => ?_) fun D H8 ys ds hl hp nD o8 B8 hD hA => ?_
      · walk_at "wp"
        refine ⟨trivial, .inr (by decide), .inr (by omega), .inl ⟨_, rfl, by decide, ?_⟩⟩
        have hdr := fun z : Int => (⟨Int.emod_nonneg z (by decide), Int.emod_lt_of_pos z (by decide)⟩ : 0 ≤ z % 94 ∧ z % 94 < 94)
        have hz := hdr ((d5 : Int) + ((0 + (i : Int)) * 20 + (0 + (j : Int))) * (1 + (d6 : Int)))
        rw [← Int.toNat_of_nonneg hz.1]
        exact ixc (by omega) (kN _ _ _ .refl B8 (.str _) (show _ < 94 by omega))
      · refine ⟨_, D, ds.map fun k => ⟨#[sgAt k]⟩, rfl, rfl, .inl (sqL_signs hD hA), ?_, ?_⟩
        · rw [strs_len, List.length_map]
          show _ + _ * 0 ≤ _
          omega
        have hq8 := o8 q _ qb hq7
        rw [joinT, txtS]
        refine ⟨_, _, rfl, rfl, by rw [ofIx_len, ofIx_len, hl]; decide, m_app hq8 (small1000000 (by rw [vl_len]; have := len_tot ((ls ++ [[76, 68, 83, 71, 78, 67, 0] ++ [76 + i / 16] ++ [0, 15]])); omega)) ?_⟩
        rw [ofIx_app]
        refine ⟨(ls ++ [[76, 68, 83, 71, 78, 67, 0] ++ [76 + i / 16] ++ [0, 15]]) ++ [[83, 68, 87, 83, 0, 6] ++ ds], _, _, rfl, Off.put (ot.trans o8) nqH, B8.upd (Ne.symm qb) (Ne.symm qd), by rw [upd_same]; exact congrArg (fun z => some (HO.lst z)) (vl_snoc _ _).symm, ?_, by simp, ?_⟩
        · intro l hl2
          rcases List.mem_append.mp hl2 with h | h
          · exact hTt l h
          · rw [List.mem_singleton.mp h]
            intro k hk
            rcases List.mem_append.mp hk with h | h
            · exact tnl [83, 68, 87, 83, 0, 6] (by decide) k h
            · exact Nat.lt_trans (hp k h) (by decide)
        · rw [tot_app, tot_one, List.length_append, hl]
          show _ + ((6 + 20) + 1) ≤ _
          omega
    · rw [if_neg c]
      refine ⟨ty_lst (.of hq), ⟨_, rfl⟩, _, rfl, by decide, by decide, ?_⟩
      refine lcNx (K := K) (fun k => .str ⟨#[sgAt k]⟩) (· < 94) Bi (fun _ => rfl) (by decide) (fun j hj H8 o8 B8 N kN => ?_) fun D H8 ys ds hl hp nD o8 B8 hD hA => ?_
      · walk_at "wp"
        refine ⟨trivial, .inr (by decide), .inr (by omega), .inl ⟨_, rfl, by decide, ?_⟩⟩
        have hdr := fun z : Int => (⟨Int.emod_nonneg z (by decide), Int.emod_lt_of_pos z (by decide)⟩ : 0 ≤ z % 94 ∧ z % 94 < 94)
        have hz := hdr ((d5 : Int) + ((0 + (i : Int)) * 20 + (0 + (j : Int))) * (1 + (d6 : Int)))
        rw [← Int.toNat_of_nonneg hz.1]
        exact ixc (by omega) (kN _ _ _ .refl B8 (.str _) (show _ < 94 by omega))
      · refine ⟨_, D, ds.map fun k => ⟨#[sgAt k]⟩, rfl, rfl, .inl (sqL_signs hD hA), ?_, ?_⟩
        · rw [strs_len, List.length_map]
          show _ + _ * 0 ≤ _
          omega
        have hq8 := o8 q _ qb hq
        rw [joinT, txtS]
        refine ⟨_, _, rfl, rfl, by rw [ofIx_len, ofIx_len, hl]; decide, m_app hq8 (small1000000 (by rw [vl_len]; have := len_tot (ls); omega)) ?_⟩
        rw [ofIx_app]
        refine ⟨ls ++ [[83, 68, 87, 83, 0, 6] ++ ds], _, _, rfl, Off.put (oi.trans o8) nqH, B8.upd (Ne.symm qb) (Ne.symm qd), by rw [upd_same]; exact congrArg (fun z => some (HO.lst z)) (vl_snoc _ _).symm, ?_, by simp, ?_⟩
        · intro l hl2
          rcases List.mem_append.mp hl2 with h | h
          · exact hT l h
          · rw [List.mem_singleton.mp h]
            intro k hk
            rcases List.mem_append.mp hk with h | h
            · exact tnl [83, 68, 87, 83, 0, 6] (by decide) k h
            · exact Nat.lt_trans (hp k h) (by decide)
        · rw [tot_app, tot_one, List.length_append, hl]
          show _ + ((6 + 20) + 1) ≤ _
          omega
  · rintro σ H7 ⟨ls, y7, y8, rfl, oi, Bi, hq, hT, hne, htot⟩
    have e1 : ((n : Int)).toNat = n := by omega
    rw [e1] at htot
    have nqH : H q = none := by
      cases hh : H q with
      | none => rfl
      | some o =>
        have := (o4.trans (o5.trans o6)) q o qb hh
        rw [nq] at this
        cases this
    have fin : ∀ (ls : List (List Nat)) (r : Addr) (H8 : Hp), Off (· = b) H H8 → Bb b dl H8 → H8 r = some (.lst (vl ls)) → (∀ l ∈ ls, Tn l) → ls ≠ [] → tot ls ≤ 4000 →
        (∃ a, V.str (Str.ofString "\n") = V.str a) ∧ ∃ a p ys, V.str (Str.ofString "\n") = V.str a ∧ [V.ref r] = [V.ref p] ∧ (SqL K H8 p (List.map V.str ys) ∨ SqT K H8 p (List.map V.str ys)) ∧ (List.map (fun x => x.length) ys).sum + ys.length * a.length ≤ 16777216 ∧
          ∃ i j, V.str (Txt.join a ys) = V.str i ∧ V.str (Str.ofString "\n") = V.str j ∧ i.length + j.length ≤ sizeLine ∧ Q (V.str (i ++ j)) H8 := fun ls r H8 o8 B8 hr hT hne ht => by
      refine ⟨⟨_, rfl⟩, _, r, ls.map ofIx, rfl, rfl, .inl ?_, ?_, _, _, rfl, rfl, ?_, ?_⟩
      · rw [List.map_map]
        exact .of hr
      · have := sums_tot ls
        show _ + _ * 1 ≤ _
        omega
      · have e := congrArg Str.length (joinNl' hne)
        rw [strLen, ofIx_len, flat_tot] at e
        rw [e]
        exact le1000000 (by omega)
      · rw [joinNl' hne]
        exact k _ _ _ o8 B8 (.str _) ⟨flat_tn hT, by rw [flat_tot]; exact ht⟩
    walk_at "wp"
    split
    · refine ⟨by decide, fun p2 np2 => ?_⟩
      have hq2 : (upd H7 p2 (.lst [V.str "class b 0", V.str "method m 0"])) q = some (.lst (vl ls)) := by
        rw [upd_ne (fun e => by rw [← e, hq] at np2; cases np2)]
        exact hq
      refine m_cat hq2 upd_same (by rw [vl_len]; have := len_tot ls; exact le1000000 (by show ls.length + 2 ≤ _; omega)) fun p3 np3 => ?_
      have o3' := (oi.new (o := .lst [V.str "class b 0", V.str "method m 0"]) np2).new (o := .lst (vl ls ++ [V.str "class b 0", V.str "method m 0"])) np3
      have B3' := (Bi.new (o := .lst [V.str "class b 0", V.str "method m 0"]) np2).new (o := .lst (vl ls ++ [V.str "class b 0", V.str "method m 0"])) np3
      refine ⟨_, 20, rfl, rfl, ⟨by decide, by decide⟩, by decide +kernel, ?_⟩
      rw [yS, txtS]
      refine ⟨_, _, rfl, rfl, by rw [ofIx_len, ofIx_len]; decide, by decide, fun p4 np4 => ?_⟩
      rw [ofIx_app]
      have n34 : p3 ≠ p4 := fun e => by
        rw [← e, upd_same] at np4
        cases np4
      refine ⟨p4, 15, _, rfl, rfl, upd_same, by decide, by decide, by decide, fun p5 np5 => ?_⟩
      have n35 : p3 ≠ p5 := fun e => by
        rw [← e, upd_ne n34, upd_same] at np5
        cases np5
      have e3 : (upd (upd (upd (upd H7 p2 (.lst [V.str "class b 0", V.str "method m 0"])) p3 (.lst (vl ls ++ [V.str "class b 0", V.str "method m 0"]))) p4 (.lst [V.str (ofIx ([83, 68, 87, 83, 0, 6] ++ List.replicate 20 88))])) p5
          (.lst (List.replicate (15 : Int).toNat [V.str (ofIx ([83, 68, 87, 83, 0, 6] ++ List.replicate 20 88))]).flatten)) p3 = some (.lst (vl ls ++ [V.str "class b 0", V.str "method m 0"])) := by
        rw [upd_ne n35, upd_ne n34, upd_same]
      refine m_cat e3 upd_same (by rw [List.length_append, vl_len]; have := len_tot ls; exact le1000000 (by show (ls.length + 2) + 15 ≤ _; omega)) fun p6 np6 => ?_
      have o6' := ((o3'.new (o := .lst [V.str (ofIx ([83, 68, 87, 83, 0, 6] ++ List.replicate 20 88))]) np4).new (o := .lst (List.replicate (15 : Int).toNat [V.str (ofIx ([83, 68, 87, 83, 0, 6] ++ List.replicate 20 88))]).flatten) np5)
      have B6' := ((B3'.new (o := .lst [V.str (ofIx ([83, 68, 87, 83, 0, 6] ++ List.replicate 20 88))]) np4).new (o := .lst (List.replicate (15 : Int).toNat [V.str (ofIx ([83, 68, 87, 83, 0, 6] ++ List.replicate 20 88))]).flatten) np5)
      refine ⟨_, 13, rfl, rfl, ⟨by decide, by decide⟩, by decide +kernel, ?_⟩
      rw [zS]
      refine ⟨_, _, rfl, rfl, by rw [ofIx_len, ofIx_len]; decide, by decide, fun p7 np7 => ?_⟩
      rw [ofIx_app]
      have n67 : p6 ≠ p7 := fun e => by
        rw [← e, upd_same] at np7
        cases np7
      refine m_cat (by rw [upd_ne n67, upd_same]) upd_same (by
        rw [List.length_append, List.length_append, vl_len]
        have := len_tot ls
        exact le1000000 (by show ((ls.length + 2) + 15) + 1 ≤ _; omega)) fun p8 np8 => ?_
      have ev : vl ls ++ [V.str "class b 0", V.str "method m 0"] ++ (List.replicate (15 : Int).toNat [V.str (ofIx ([83, 68, 87, 83, 0, 6] ++ List.replicate 20 88))]).flatten ++ [V.str (ofIx ([83, 68, 87, 83, 0, 6] ++ List.replicate 13 89))] =
          vl (ls ++ [[66, 75, 64, 82, 82, 0, 65, 0, 15], [76, 68, 83, 71, 78, 67, 0, 76, 0, 15]] ++ List.replicate 15 ([83, 68, 87, 83, 0, 6] ++ List.replicate 20 88) ++ [[83, 68, 87, 83, 0, 6] ++ List.replicate 13 89]) := by
        rw [vl_app, vl_app, vl_app, clsB, metM]
        rfl
      refine fin _ p8 _ (((o6'.new np6).new np7).new np8) (((B6'.new np6).new np7).new np8) (by rw [upd_same, ev]) (fun l hl => ?_) (by simp) ?_
      · simp only [List.mem_append, List.mem_cons, List.not_mem_nil, or_false] at hl
        rcases hl with ((h | h | h) | h) | h
        · exact hT l h
        · rw [h]
          exact tnl _ (by decide)
        · rw [h]
          exact tnl _ (by decide)
        · rw [List.eq_of_mem_replicate h]
          exact tnl _ (by decide)
        · rw [h]
          exact tnl _ (by decide)
      · rw [tot_app, tot_app, tot_app]
        have e1 : tot [[66, 75, 64, 82, 82, 0, 65, 0, 15], [76, 68, 83, 71, 78, 67, 0, 76, 0, 15]] = 21 := by decide
        have e2 : tot (List.replicate 15 ([83, 68, 87, 83, 0, 6] ++ List.replicate 20 88)) = 405 := by decide
        have e3 : tot [[83, 68, 87, 83, 0, 6] ++ List.replicate 13 89] = 20 := by decide
        omega
    · exact fin _ q _ oi Bi hq hT hne (by omega)
theorem ok__law_entry (T : Txt K mg) : OkF P w K mg base CX0 "_law_entry" 8 ["box"] (spG K DEn.d (fun c => c.ok ∧ c.sm ∧ ¬ c.kd = "start")) := by
  refine mkF T.d__law_entry T.g__law_entry sc__law_entry bw__law_entry (fun vs H Q E h => l1 h) (fun cdv A outer s H vs Q E hr h => ?_)
  obtain ⟨_, rfl, b, dl, rfl, B, k⟩ := h
  refine ⟨_, PSs.nox ((pss_cons (ps_set (i := 1) sc__law_entry.nd rfl (by first | exact Or.inl rfl | exact Or.inr rfl) (fcall (ok__law_draw T) (hr.mono (by decide)) pass0 (pa_cons (pv 0) (pa_cons pe_int pa_nil))))
    (pss_cons (ps_if (pt_cmpR op_lt (pv 1) pe_int (nomark _))
      (pss_one (ps_ret (pe_tup (pa_cons pe_str (pa_cons (fcall (ok__law_name T) (hr.mono (by decide)) pass0 (pa_cons (pv 0) pa_nil)) (pa_cons (pe_callTy call_tuple_of (by rfl) T.n_tuple (by decide +kernel) (pa_cons (pe_lc (own := [("k", 2)]) (g := gName 2) (tt := tYes) rfl sc__law_entry.nd (pi_range1 (by rfl) T.n_range (pa_cons (fcall (ok__law_draw T) (hr.mono (by decide)) pass0 (pa_cons (pv 0) (pa_cons pe_int pa_nil))) pa_nil)) (blkOk_by (N := ["box", "kind", "k", "size"]) (sc := defScope s__law_entry) (by decide +kernel)) (fun _ _ _ _ _ => pg_name (i := 2) sc__law_entry.nd rfl (Or.inl rfl)) (fun _ _ _ _ _ => pts_nil) (fun _ _ _ _ _ => (fcall (ok__law_value T) (hr.mono (by decide)) pass0 (pa_cons (pv 0) pa_nil)))) pa_nil)) pa_nil))))))
      pss_nil)
    (pss_cons (ps_if (pt_cmpR op_lt (pv 1) pe_int (nomark _))
      (pss_one (ps_ret (pe_tup (pa_cons pe_str (pa_cons (fcall (ok__law_reference T) (hr.mono (by decide)) pass0 (pa_cons (pv 0) pa_nil)) (pa_cons (fcall (ok__law_name T) (hr.mono (by decide)) pass0 (pa_cons (pv 0) pa_nil)) (pa_cons (pe_callTy call_tuple_of (by rfl) T.n_tuple (by decide +kernel) (pa_cons (pe_lc (own := [("k", 2)]) (g := gName 2) (tt := tYes) rfl sc__law_entry.nd (pi_range1 (by rfl) T.n_range (pa_cons (fcall (ok__law_draw T) (hr.mono (by decide)) pass0 (pa_cons (pv 0) (pa_cons pe_int pa_nil))) pa_nil)) (blkOk_by (N := ["box", "kind", "k", "size"]) (sc := defScope s__law_entry) (by decide +kernel)) (fun _ _ _ _ _ => pg_name (i := 2) sc__law_entry.nd rfl (Or.inl rfl)) (fun _ _ _ _ _ => pts_nil) (fun _ _ _ _ _ => (fcall (ok__law_value T) (hr.mono (by decide)) pass0 (pa_cons (pv 0) pa_nil)))) pa_nil)) pa_nil)))))))
      pss_nil)
    (pss_cons (ps_if (pt_cmpR op_eq (pv 1) pe_int (nomark _))
      (pss_one (ps_ret (pe_tup (pa_cons pe_str (pa_cons (pe_op op_add pe_int (fcall (ok__law_draw T) (hr.mono (by decide)) pass0 (pa_cons (pv 0) (pa_cons pe_int pa_nil)))) (pa_cons (fcall (ok__law_value T) (hr.mono (by decide)) pass0 (pa_cons (pv 0) pa_nil)) pa_nil))))))
      pss_nil)
    (pss_cons (ps_if (pt_cmpR op_eq (pv 1) pe_int (nomark _))
      (pss_one (ps_ret (pe_tup (pa_cons (pe_ix ix_list (pe_lst (pa_cons pe_str (pa_cons pe_str (pa_cons pe_str pa_nil)))) (fcall (ok__law_draw T) (hr.mono (by decide)) pass0 (pa_cons (pv 0) (pa_cons pe_int pa_nil))) (fun _ _ => rfl)) pa_nil))))
      pss_nil)
    (pss_cons (ps_if (pt_cmpR op_lt (pv 1) pe_int (nomark _))
      (pss_one (ps_ret (pe_tup (pa_cons (pe_ix ix_list (pe_lst (pa_cons pe_str (pa_cons pe_str pa_nil))) (pe_op op_sub (pe_callTy call_int1 (by rfl) T.n_int (by decide +kernel) (pa_cons (pv 1) pa_nil)) pe_int) (fun _ _ => rfl)) (pa_cons (fcall (ok__law_reference T) (hr.mono (by decide)) pass0 (pa_cons (pv 0) pa_nil)) pa_nil)))))
      pss_nil)
    (pss_cons (ps_if (pt_cmpR op_lt (pv 1) pe_int (nomark _))
      (pss_one (ps_ret (pe_tup (pa_cons pe_str (pa_cons (pe_tup (pa_cons (pe_op op_add pe_int (fcall (ok__law_draw T) (hr.mono (by decide)) pass0 (pa_cons (pv 0) (pa_cons pe_int pa_nil)))) (pa_cons (pe_op op_add pe_int (fcall (ok__law_draw T) (hr.mono (by decide)) pass0 (pa_cons (pv 0) (pa_cons pe_int pa_nil)))) (pa_cons (fcall (ok__law_number T) (hr.mono (by decide)) pass0 (pa_cons (pv 0) pa_nil)) (pa_cons (fcall (ok__law_drawn_content T) (hr.mono (by decide)) pass0 (pa_cons (pv 0) pa_nil)) pa_nil))))) pa_nil)))))
      pss_nil)
    (pss_cons (ps_set (i := 3) sc__law_entry.nd rfl (by first | exact Or.inl rfl | exact Or.inr rfl) (pe_ix ix_list (pe_lst (pa_cons (fcall (ok__law_draw T) (hr.mono (by decide)) pass0 (pa_cons (pv 0) (pa_cons pe_int pa_nil))) (pa_cons (pe_op op_add pe_int (fcall (ok__law_draw T) (hr.mono (by decide)) pass0 (pa_cons (pv 0) (pa_cons pe_int pa_nil)))) pa_nil))) (pe_callTy call_int1 (by rfl) T.n_int (by decide +kernel) (pa_cons (pe_cmpR op_eq (fcall (ok__law_draw T) (hr.mono (by decide)) pass0 (pa_cons (pv 0) (pa_cons pe_int pa_nil))) pe_int (nomark _)) pa_nil)) (fun _ _ => rfl)))
    (pss_one (ps_ret (pe_tup (pa_cons pe_str (pa_cons (pe_callTy call_tuple_of (by rfl) T.n_tuple (by decide +kernel) (pa_cons (pe_lc (own := [("k", 2)]) (g := gName 2) (tt := tYes) rfl sc__law_entry.nd (pi_range1 (by rfl) T.n_range (pa_cons (pv 3) pa_nil)) (blkOk_by (N := ["box", "kind", "k", "size"]) (sc := defScope s__law_entry) (by decide +kernel)) (fun _ _ _ _ _ => pg_name (i := 2) sc__law_entry.nd rfl (Or.inl rfl)) (fun _ _ _ _ _ => pts_nil) (fun _ _ _ _ _ => (fcall (ok__law_reference T) (hr.mono (by decide)) pass0 (pa_cons (pv 0) pa_nil)))) pa_nil)) pa_nil)))))))))))))), ?_⟩
  walk_at "wp"
  refine dcall 12 rfl (by decide) B fun H1 d1 o1 B1 h1 => ?_
  walk_at "wp"
  split
  · refine gcall' B1 fun v1 H2 nm o2 B2 e1 q1 => ?_
    refine dcall 7 rfl (by decide) B2 fun H3 d3 o3 B3 h3 => ?_
    refine ⟨_, rfl, (rgb (by omega)).1, (rgb (by omega)).2, ?_⟩
    refine lcNx (K := K) DVa.d DVa.ok B3 nl_va (by omega) (fun i hi H4 o4 B4 N kN => ?_) fun D H4 ys ds hl hp nD o4 B4 hD hA => ⟨D, ys, rfl, .inl ⟨.of hD, fun l nl => ⟨by decide, fun z nz => ?_⟩⟩⟩
    · walk_at "wp"
      exact ⟨trivial, gcall' B4 fun v H5 x o5 B5 dv hx => kN _ x _ o5 B5 dv hx⟩
    have d6 := dp_tup nl hA
    have e1' := (SeqKeep.of (Same.new (o := .tup ys) nl)).dp ((B2.tup (o3.trans o4)).dp (d := pS nm) rfl e1)
    exact k _ _ (.create nm ds) (((o1.trans (o2.trans (o3.trans o4))).new nl).new nz) ((B4.new nl).new nz) (dp_tup nz (.cons (.str _) (.cons e1' (.cons d6 .nil)))) ⟨⟨q1, by omega, hp⟩, True.intro, (by simp only [DEn.kd]; decide)⟩
  split
  · refine gcall' B1 fun v0 H2 r o2 B2 e0 q0 => ?_
    refine gcall' B2 fun v1 H3 nm o3 B3 e1 q1 => ?_
    refine dcall 5 rfl (by decide) B3 fun H4 d4 o4 B4 h4 => ?_
    refine ⟨_, rfl, (rgb (by omega)).1, (rgb (by omega)).2, ?_⟩
    refine lcNx (K := K) DVa.d DVa.ok B4 nl_va (by omega) (fun i hi H5 o5 B5 N kN => ?_) fun D H5 ys ds hl hp nD o5 B5 hD hA => ⟨D, ys, rfl, .inl ⟨.of hD, fun l nl => ⟨by decide, fun z nz => ?_⟩⟩⟩
    · walk_at "wp"
      exact ⟨trivial, gcall' B5 fun v H6 x o6 B6 dv hx => kN _ x _ o6 B6 dv hx⟩
    have d6 := dp_tup nl hA
    have s5 := SeqKeep.of (Same.new (o := .tup ys) nl)
    have e0' := s5.dp ((B2.tup (o3.trans (o4.trans o5))).dp (nl_ref r) e0)
    have e1' := s5.dp ((B3.tup (o4.trans o5)).dp (d := pS nm) rfl e1)
    exact k _ _ (.send r nm ds) (((o1.trans (o2.trans (o3.trans (o4.trans o5)))).new nl).new nz) ((B5.new nl).new nz) (dp_tup nz (.cons (.str _) (.cons e0' (.cons e1' (.cons d6 .nil))))) ⟨⟨q0, q1, by omega, hp⟩, True.intro, (by simp only [DEn.kd]; decide)⟩
  split
  · refine dcall 9 rfl (by decide) B1 fun H2 d2 o2 B2 h2 => ?_
    walk_at "wp"
    refine gcall' B2 fun v1 H3 x o3 B3 e1 q1 => ⟨by decide, fun z nz => ?_⟩
    exact k _ _ (.transfer (d2 + 1) x) ((o1.trans (o2.trans o3)).new nz) (B3.new nz) (dp_tup nz (.cons (.str _) (.cons (by rw [pN, dI, show (1 + (d2 : Int)) = ((d2 + 1 : Nat) : Int) by omega]) (.cons e1 .nil)))) ⟨⟨⟨by omega, by omega⟩, q1⟩, True.intro, (by simp only [DEn.kd]; decide)⟩
  split
  · refine ⟨by decide, fun p np => ?_⟩
    have B2 := B1.new (o := .lst [V.str "take", V.str "turn", V.str "collect"]) np
    have o2 := o1.new (o := .lst [V.str "take", V.str "turn", V.str "collect"]) np
    have pb : p ≠ b := fun e => B1.b0 (by rw [← e]; exact np)
    refine dcall 3 rfl (by decide) B2 fun H3 d3 o3 B3 h3 => ?_
    have : d3 = 0 ∨ d3 = 1 ∨ d3 = 2 := by omega
    rcases this with rfl | rfl | rfl
    · exact ix_l (.of (o3 p _ pb upd_same)) rfl ⟨by decide, fun z nz => k _ _ .take ((o2.trans o3).new nz) (B3.new nz) (dp_tup nz (.cons (.str _) .nil)) ⟨True.intro, True.intro, (by simp only [DEn.kd]; decide)⟩⟩
    · exact ix_l (.of (o3 p _ pb upd_same)) rfl ⟨by decide, fun z nz => k _ _ .turn ((o2.trans o3).new nz) (B3.new nz) (dp_tup nz (.cons (.str _) .nil)) ⟨True.intro, True.intro, (by simp only [DEn.kd]; decide)⟩⟩
    · exact ix_l (.of (o3 p _ pb upd_same)) rfl ⟨by decide, fun z nz => k _ _ .collect ((o2.trans o3).new nz) (B3.new nz) (dp_tup nz (.cons (.str _) .nil)) ⟨True.intro, True.intro, (by simp only [DEn.kd]; decide)⟩⟩
  split
  · refine ⟨by decide, fun p np => .inl ⟨_, rfl, ?_⟩⟩
    have B2 := B1.new (o := .lst [V.str "pin", V.str "release"]) np
    have o2 := o1.new (o := .lst [V.str "pin", V.str "release"]) np
    have : d1 = 6 ∨ d1 = 7 := by omega
    rcases this with rfl | rfl
    · refine ix_l (.of upd_same) rfl (gcall' B2 fun v1 H3 r o3 B3 e1 q1 => ⟨by decide, fun z nz => ?_⟩)
      exact k _ _ (.pin r) ((o2.trans o3).new nz) (B3.new nz) (dp_tup nz (.cons (.str _) (.cons e1 .nil))) ⟨q1, True.intro, (by simp only [DEn.kd]; decide)⟩
    · refine ix_l (.of upd_same) rfl (gcall' B2 fun v1 H3 r o3 B3 e1 q1 => ⟨by decide, fun z nz => ?_⟩)
      exact k _ _ (.release r) ((o2.trans o3).new nz) (B3.new nz) (dp_tup nz (.cons (.str _) (.cons e1 .nil))) ⟨q1, True.intro, (by simp only [DEn.kd]; decide)⟩
  split
  · refine dcall 9 rfl (by decide) B1 fun H2 d2 o2 B2 h2 => ?_
    walk_at "wp"
    refine dcall 9 rfl (by decide) B2 fun H3 d3 o3 B3 h3 => ?_
    walk_at "wp"
    refine gcall' B3 fun v4 H4 n o4 B4 e4 q4 => ?_
    refine gcall' B4 fun v5 H5 c o5 B5 e5 q5 => ⟨by decide, fun z nz => ⟨by decide, fun z2 nz2 => ?_⟩⟩
    have dp : Dp K (upd H5 z (.tup [.int (1 + (d2 : Int)), .int (1 + (d3 : Int)), v4, v5])) (.ref z) (DPk.d ⟨d2 + 1, d3 + 1, n, c⟩) := dp_tup nz (.cons (by rw [pN, dI, show (1 + (d2 : Int)) = ((d2 + 1 : Nat) : Int) by omega]) (.cons (by rw [pN, dI, show (1 + (d3 : Int)) = ((d3 + 1 : Nat) : Int) by omega]) (.cons ((B4.tup o5).dp rfl e4) (.cons e5 .nil))))
    refine k _ _ (.receive ⟨d2 + 1, d3 + 1, n, c⟩) (((o1.trans (o2.trans (o3.trans (o4.trans o5)))).new nz).new nz2) ((B5.new nz).new nz2) (dp_tup nz2 (.cons (.str _) (.cons dp .nil))) ⟨⟨⟨?_, ?_⟩, ⟨?_, ?_⟩, q4, q5⟩, True.intro, (by simp only [DEn.kd]; decide)⟩
    · show 1 ≤ d2 + 1; omega
    · show d2 + 1 ≤ 9; omega
    · show 1 ≤ d3 + 1; omega
    · show d3 + 1 ≤ 9; omega
  · refine dcall 4 rfl (by decide) B1 fun H2 d2 o2 B2 h2 => ?_
    refine dcall 31 rfl (by decide) B2 fun H3 d3 o3 B3 h3 => ?_
    walk_at "wp"
    refine ⟨by decide, fun p np => ?_⟩
    have B4 := B3.new (o := .lst [.int (d2 : Nat), .int (120 + (d3 : Int))]) np
    have o4 := (o1.trans (o2.trans o3)).new (o := .lst [.int (d2 : Nat), .int (120 + (d3 : Int))]) np
    have pb : p ≠ b := fun e => B3.b0 (by rw [← e]; exact np)
    refine dcall 4 rfl (by decide) B4 fun H5 d5 o5 B5 h5 => ?_
    walk_at "wp"
    refine .inr ⟨_, rfl, ?_⟩
    have hs : ∃ n : Nat, n ≤ 1000 ∧ atI [V.int (d2 : Nat), .int (120 + (d3 : Int))] (if decide ((d5 : Int) = 0) = true then 1 else 0) = some (.int (n : Nat)) := by
      by_cases c : (d5 : Int) = 0
      · rw [decide_eq_true c]
        exact ⟨120 + d3, by omega, by rw [show (120 + (d3 : Int)) = ((120 + d3 : Nat) : Int) by omega]; rfl⟩
      · rw [decide_eq_false c]
        exact ⟨d2, by omega, rfl⟩
    obtain ⟨n, hn, hni⟩ := hs
    refine ix_l (.of (o5 p _ pb upd_same)) hni ⟨_, rfl, (rgb (by omega)).1, (rgb (by omega)).2, ?_⟩
    refine lcNx (K := K) DRef.d DRef.ok B5 nl_ref (by omega) (fun i hi H6 o6 B6 N kN => ?_) fun D H6 ys ds hl hp nD o6 B6 hD hA => ⟨D, ys, rfl, .inl ⟨.of hD, fun l nl => ⟨by decide, fun z nz => ?_⟩⟩⟩
    · walk_at "wp"
      exact ⟨trivial, gcall' B6 fun v H7 x o7 B7 dv hx => kN _ x _ o7 B7 dv hx⟩
    have d6 := dp_tup nl hA
    exact k _ _ (.drop ds) (((o4.trans (o5.trans o6)).new nl).new nz) ((B6.new nl).new nz) (dp_tup nz (.cons (.str _) (.cons d6 .nil))) ⟨⟨by omega, hp⟩, (show ds.length ≤ 1000 by omega), (by simp only [DEn.kd]; decide)⟩
end
end Kt
set_option Elab.async false
set_option linter.all false
set_option maxRecDepth 100000
set_option maxHeartbeats 4000000
namespace Kt
open PySem PySem.Spec PyProof.Rows L2 Vl
local macro_rules | `(tactic| walk_at "wp") => `(tactic| simp only [L2.start, cxK, a_seq, a_next, a_asg, a_ret, a_retN, a_drop, a_ifS, a_break, a_cont, a_c, a_op, a_un, a_nil, a_cons, a_tup, a_lst, a_call, a_meth, a_make, a_cb, a_bm0, a_m1, a_bm, a_fld, a_sfld, a_sfldAug, a_aug, a_test, a_tB, a_and, a_or, a_not, a_if, a_sl, a_noPart, a_part,
  a_for, a_iTup, a_iList, a_iStr, a_iRng1, a_iRng2, rng1, rng2, a_lc, a_yes, a_gTup, a_gCons, a_gNil, a_gSub, wipe, List.set_cons_zero, List.set_cons_succ,
  v0, v1, v2, v3, v4, v5, v6, v7, v8, v9, v10, n0, n1, n2, n3, n4, n5, n6, n7, n8, n9, n10, i_0, i_c, i_u, e_i, e_s, e_b, e_n, ne_i, ne_s, ne_b, tst, tsi, tss, tsr, Vl.s0, Vl.s1, Vl.s2, Vl.s3, Vl.s4, Vl.s5, List.map_cons, List.map_nil, List.length_cons, List.length_nil, List.replicate, List.cons_append, List.nil_append, Nat.reduceAdd, Nat.reduceSub, decide_eq_true_eq, ofS, String.reduceEq, decide_true, decide_false, Bool.false_eq_true, Bool.not_true, Bool.not_false, if_true, if_false])
local macro_rules | `(tactic| walk_at "wk") => `(tactic| simp only [L2.start, cxK, a_seq, a_next, a_asg, a_ret, a_retN, a_drop, a_ifS, a_break, a_cont, a_c, q_eq, q_ne, q_in, q_ix, q_i0, q_iC, a_un, a_nil, a_cons, a_tup, a_meth, a_make, a_cb, a_bm0, a_m1, a_bm, a_fld, a_sfld, a_sfldAug, a_aug, a_test, a_tB, a_and, a_or, a_not, a_if, a_sl, a_noPart, a_part,
  a_for, a_iTup, a_iList, a_iStr, a_iRng1, a_iRng2, rng1, rng2, a_lc, a_yes, a_gTup, a_gCons, a_gNil, a_gSub, wipe, List.set_cons_zero, List.set_cons_succ,
  v0, v1, v2, v3, v4, v5, v6, v7, v8, v9, v10, n0, n1, n2, n3, n4, n5, n6, n7, n8, n9, n10, i_0, i_c, i_u, e_i, e_s, e_b, e_n, ne_i, ne_s, ne_b, tst, tsi, tss, tsr, Vl.s0, Vl.s1, Vl.s2, Vl.s3, Vl.s4, Vl.s5, List.map_cons, List.map_nil, List.length_cons, List.length_nil, List.replicate, List.cons_append, List.nil_append, Nat.reduceAdd, Nat.reduceSub, decide_eq_true_eq, ofS, String.reduceEq, decide_true, decide_false, Bool.false_eq_true, Bool.not_true, Bool.not_false, if_true, if_false])
section
variable {P : Program} {w : World} {K : PySem.W.Frag} {mg : Str → Option Value} {base : Heap}
theorem ok__law_same (T : Txt K mg) : OkG P w K mg base CX0 "_law_same" 1 ["actual", "due"] (Sp2 fun a b H Q _ => ∃ p q d, a = .ref p ∧ b = .ref q ∧ Dp K H (.ref p) d ∧ Dp K H (.ref q) d ∧ d.showable = true ∧ d.hasDict = false ∧ d.depth ≤ 64 ∧ d.shown.length ≤ sizeLine ∧ Q (.bl true) H) := by
  refine mkG T.d__law_same T.g__law_same sc__law_same bw__law_same (fun vs H Q E h => l2 h) (fun cdv A outer s H vs Q E hgd hr h => ?_)
  obtain ⟨_, _, rfl, p, q, d, rfl, rfl, h1, h2, h3, h4, h5, h6, k⟩ := h
  refine ⟨_, PSs.nox ((pss_one (ps_ret (pe_cmpR op_eq (pe_callB (call_reprD hgd (Nat.lt_trans (Nat.lt_succ_self _) (hu65 hr)) (hu65 hr)) (by rfl) T.n_repr (by decide +kernel) (pa_cons (pv 0) pa_nil)) (pe_callB (call_reprD hgd (Nat.lt_trans (Nat.lt_succ_self _) (hu65 hr)) (hu65 hr)) (by rfl) T.n_repr (by decide +kernel) (pa_cons (pv 1) pa_nil)) (nomark _))))), ?_⟩
  walk_at "wp"
  refine ⟨p, d, rfl, h1, h3, h4, h5, h6, q, d, rfl, h2, h3, h4, h5, h6, ?_⟩
  walk_at "wp"
  exact k
end
end Kt
set_option Elab.async false
set_option linter.all false
set_option maxRecDepth 100000
set_option maxHeartbeats 4000000
namespace Vl
open PySem PySem.Spec PyProof.Rows PySem.W PySem.Calls
/-! ### super().__init__(x) of an own exception over ValueError -/
section
variable {prog : Program} {w : World} {A : Around} {E : Value → Shared → Prop} {h : Heap} {g : Array GenState} {d : Drawn} {t : Nat} {os : OsState}
variable {nm q : Str} {C N : Addr} {bs bm : List Value} {hdct : Bool} {sn : List Str} {sub : List Value} {ab : Bool} {col : Option Bool} {dd : Option Addr} {k0 k1 k2 k3 k5 : Option Value}
theorem call_bwV {u e t0 : Addr} {rest : List Value} {Q : Value → Shared → Prop}
    (hC : h.get? C = some (excClassObj nm q C N bs bm hdct sn sub ab col dd k0 k1 k2 k3 k5 "ValueError.__new__")) (he : h.get? e = some (HandSPX.excO C t0)) (hu : h.get? u = some (kxs_mw "ValueError.__init__" e)) (hrest : rest.length ≤ sizeLine)
    (hq : ∀ h' t1, (∀ b o, b ≠ e → h.get? b = some o → h'.get? b = some o) → h'.get? e = some (HandSPX.excO C t1) → Q .none ⟨h', g, d, t, os⟩) :
    wpAny (model prog w) A (call (.ref u) rest) Q E ⟨h, g, d, t, os⟩ := by
  refine wpAny_call (codeAny_of_tree ?_)
  show wpAny _ A.in1 (callAny (.ref u) ⟨rest, []⟩) _ _ _
  simp only [callAny]
  refine wpAny_bind (wpAny_load hu ?_)
  simp only [kxs_mw, show (Value.type "method-wrapper" == Value.type "method" || Value.type "method-wrapper" == Value.type "builtin_function_or_method" || Value.type "method-wrapper" == Value.type "method-wrapper") = true by decide, if_true]
  refine W.KFB.if_so (by decide) ?_
  refine wpAny_bind (ESX.check_bound F.excBase_ValueError hC he rfl ?_)
  refine wpAny_bind (wpAny_pure (wpAny_pure ?_))
  refine ⟨Code.quiet_builtin _ (by decide +kernel), codeAny_builtin F.excBase_ValueError.initEntry ?_⟩
  rw [Around.under_plainId F.excBase_ValueError.init.plain _]
  wp_walk
  refine hq _ h.objs.size (fun b o hb ho => ?_) ?_
  · rw [Heap.get?_update_other _ _ (Ne.symm hb)]
    exact Heap.get?_push_of_some _ ho
  · rw [Heap.get?_update_self _ (Heap.get?_push_of_some _ he) rfl]
    rfl
end
end Vl
namespace Vl
open PySem PySem.Spec PyProof.Rows L2
section
variable {X : Cx} {pins : List (Addr × Obj)} {σ : L2.St} {H : Hp} {s : Shared}
/-- what the written part says of such an __init__ -/
structure SupT (K : PySem.W.Frag) (prog : Program) (C f : Addr) (fd : FuncData) (cc cda : Addr) (ar : Arg) : Prop where
  oex : OexC K C
  fn : ∃ oc od osl, K.lookup f = some ⟨oc, od, .func fd, osl⟩
  par : (fd.params.posonlyargs ++ fd.params.args).head? = some ar
  code : ∃ ccl cdd vs ccs file tf, K.lookup cda = some ⟨ccl, cdd, .fields vs, ccs⟩ ∧ vs[2]? = some (.str file tf) ∧ ((prog.main.file : Str) == file) = true
  cell : ∃ cl cld csl, K.lookup cc = some ⟨cl, cld, .cell (some (.ref C)), csl⟩
  sup : PySem.W.ks_superIn K C C "__init__" = some (some (.builtin "ValueError.__init__"))
  sub : PySem.W.subIn K (.ref C) (.type "ValueError") = some true
  mro : PySem.W.mroIn K C (.ref C) = some true
  opq : PySem.W.nsIn K cStatics "thirdparty.any" = some none
  top : (prog.main.scope.names.lookup ("super" : Str)).isSome = false
theorem sup_eval {C f cc cda a : Addr} {fd : FuncData} {ar : Arg} {i : Nat} {body : List Stmt} {p0 p1 p2 pos : Pos} {e : Expr} {ta : TA} {Q : VK} (T : SupT X.K X.prog C f fd cc cda ar) (I : Inv X pins σ H s)
    (hks : X.env.kindOf "super" = some .globalImplicit) (hkc : X.env.kindOf "__class__" = some .free) (hka : X.env.kindOf ar.arg = some .local) (hef : X.env.func = some f) (hec : X.env.code = .ref cda) (hcl : X.env.cells.lookup ("__class__" : Str) = some cc)
    (hmg : X.mg "super" = none) (hN : X.N[i]? = some ar.arg) (hσ : σ[i]? = some (some (.ref a))) (ea : H a = some (exo a C none)) (ha : PA X [e] ta) (hvis : Vis X.env.scope ar.arg)
    (hq : ta σ H fun vs H1 => vs.length ≤ 1000 ∧ H1 a = some (exo a C none) ∧ Q .non H1)
    (he : ∃ pl : Sem Bool, eval (.Call (.Attribute (.Call (.Name "super" p0) [] [] p1) "__init__" p2) [e] [] pos) X.env = (do
      let ov ← attributeBase (.Call (.Name "super" p0) [] [] p1) "__init__" X.env (eval (.Call (.Name "super" p0) [] [] p1) X.env)
      standAt p2.atName
      let (f, first) ← holding [ov] (getMethod ov "__init__" pl)
      callWith pos f first (backTo pos (starEach [e] X.env)) []))
    (hst : starEach [e] X.env = (false, eval e X.env) :: starEach [] X.env := by rfl) :
    PySem.wpAt (model X.prog X.w) X.A (.func body X.env) (eval (.Call (.Attribute (.Call (.Name "super" p0) [] [] p1) "__init__" p2) [e] [] pos) X.env) (EP X pins σ Q) X.xe s := by
  obtain ⟨pl, he⟩ := he
  obtain ⟨nm, q, N, bs, bm, sn, sub, ab, col, dd, k0, k1, k2, k3, k5, hC, hbm⟩ := T.oex.cls
  obtain ⟨oc, od, osl, hf⟩ := T.fn
  obtain ⟨ccl, cdd, vs, ccs, file, tf, hcode, hvs, hfile⟩ := T.code
  obtain ⟨cl, cld, csl, hcell⟩ := T.cell
  have KX := I.kIn
  obtain ⟨t1, ho⟩ := exo_at I.hok ea
  obtain ⟨m, hns, hl⟩ := I.loc
  obtain ⟨u, hu, hlk⟩ := hl i ar.arg (.ref a) hN hσ hvis
  obtain rfl : u = Value.ref a := hu
  have hm : m ar.arg = some (.ref a) := by
    rcases hlk with ⟨_, h⟩ | ⟨h | h, _⟩
    · exact h
    · rw [hka] at h
      cases h
    · rw [hka] at h
      cases h
  have hcd : PySem.W.clsIn X.K C = some { name := nm, bases := bs, mro := .ref C :: bm, ns := N, qualname := q, hasDict := true, slotNames := sn, subclasses := sub, abstract := ab, collection := col, hasDel := false } := by
    unfold PySem.W.clsIn
    rw [hC] <;> rfl
  have hsup := T.sup
  unfold PySem.W.ks_superIn at hsup
  rw [hcd] at hsup
  obtain ⟨mb, hb1, hb2⟩ := I.mod.blt
  have I0 := I
  obtain ⟨hp, g, d, t, os⟩ := s
  refine PySem.ks_wpAt_MethodCall (pl := pl) ?_ he
  refine PySem.ks_wpAt_super_base hks hkc (by decide) hef (KX _ _ hf) rfl T.par hec (KX _ _ hcode) rfl hvs hfile T.top ?_
  refine PySem.W.ks_loadName_global I.ok.kind hks (Calls.loadGlobal_builtin (by rw [I.ok.glob]; exact I.mod.glob.keeps I.bk) hmg (by rw [I.ok.blt]; exact hb1.keeps I.bk) ((hb2 _ (by decide)).trans (by decide +kernel)) ⟨rfl, ?_⟩)
  refine wpAny_loadName_free I.ok.kind hkc hcl ⟨_, KX _ _ hcell, rfl⟩ ?_
  refine wpAny_loadName_local I.ok.kind hka hns hm ?_
  refine PySem.ks_wpAny_isType_cls (KX _ _ hC) rfl ⟨rfl, ?_⟩
  refine PySem.ks_wpAny_call_super (KX _ _ hC) rfl ho rfl (fun c e => by cases e) (PySem.W.looks_mroIn KX T.mro) (fun h' e1 k1 => ?_)
  have KX' : X.K.In h' := I0.ok.mod.kin.keeps fun b o z => k1 b o (I0.bk b o z)
  have IA : PySem.W.InstAt h' a { cls := .ref C, dict := none, data := .fields #[.ref t1, .none, .none, .none, .bool false, .none] } C none := ⟨k1 _ _ ho, rfl, rfl, trivial⟩
  refine PySem.W.kxs_getMethod PySem.W.kxs_ValueError e1 (PySem.W.looks_opaque KX' T.opq) (l₀ := .ref C :: bm) (fun A Q E s k q => wpAny_bind ((PySem.W.looks_clsIn KX' hcd) A _ E s k (wpAny_pure q))) rfl KX' hsup (IA.type.andThen (PySem.W.looks_subIn KX' T.sub)) (PySem.W.ks_ne KX' IA hcd) (by decide) ?_
  have hsz : hp.objs.size ≤ h'.objs.size := Nat.le_of_lt (Heap.lt_size e1)
  have J : Inv X pins σ H ⟨h'.push (PySem.W.kxs_mw "ValueError.__init__" a), g, d, t + 1, os⟩ := I0.kept (t' := t + 1) fun b o z => Heap.get?_push_of_some _ (k1 b o z)
  have hu2 : (h'.push (PySem.W.kxs_mw "ValueError.__init__" a)).get? h'.objs.size = some (PySem.W.kxs_mw "ValueError.__init__" a) := Heap.get?_push_at rfl rfl
  have J' : Inv X (pins ++ [(h'.objs.size, PySem.W.kxs_mw "ValueError.__init__" a)]) σ H ⟨h'.push (PySem.W.kxs_mw "ValueError.__init__" a), g, d, t + 1, os⟩ := J.pins_of fun p hp' => by
    rcases List.mem_append.mp hp' with z | z
    · exact J.pin p (List.mem_append_right _ z)
    · rw [List.mem_singleton.mp z]
      refine ⟨hu2, I0.hok.fresh hsz, ?_, I0.nofs hsz, fun v c => by cases c⟩
      exact Nat.ne_of_gt (Nat.lt_of_lt_of_le I0.lt hsz)
  show wpAny _ _ (callWith pos (.ref h'.objs.size) [] (backTo pos (starEach [e] X.env)) []) _ _ _
  have hrun := ha.run pos _ _ σ H _ J' hq
  rw [hst] at hrun ⊢
  refine PySem.W.kxs_callWith (i := "ValueError.__init__") (x := a) rfl ?_
  refine PySem.Calls.evalArgs_plain (thn hrun fun us s1 hs1 => ?_)
  obtain ⟨vs1, H1, I1, r1, hz, ea1, q1⟩ := hs1
  have hpin := (I1.pin (h'.objs.size, PySem.W.kxs_mw "ValueError.__init__" a) (List.mem_append_right _ (List.mem_append_right _ (List.mem_singleton.mpr rfl)))).1
  have I1' : Inv X pins σ H1 s1 := I1.unpinned
  obtain ⟨t2, ho1⟩ := exo_at I1.hok ea1
  obtain ⟨hp1, g1, d1, tk1, os1⟩ := s1
  refine ⟨hpin, call_bwV (I1.kIn _ _ hC) ho1 hpin ?_ fun h2 t3 kk hx => ?_⟩
  · rw [List.nil_append, ← Paired.length r1, sizeLine_eq]
    omega
  have J2 := I1'.write (t' := tk1) (x := a) (e := a) (o := exo a C none) (by rw [ea1]; exact True.intro) (.inl rfl) kk ⟨_, hx⟩ (exo_ok hx)
  have eu : upd H1 a (exo a C none) = H1 := by
    funext b
    by_cases hb : b = a
    · rw [hb, upd_same, ea1]
    · rw [upd_ne hb]
  rw [eu] at J2
  exact ⟨.non, H1, J2, rfl, q1⟩
end
end Vl
namespace Vl
open PySem PySem.Spec PyProof.Rows L2 NdefX
/-- THE RULE: an own exception's __init__ that says super().__init__(e), then the rest -/
theorem sup_ok {CX : CXT} {P : Program} {w : World} {K : PySem.W.Frag} {mg : Str → Option Value} {base : Heap} {C f cc cda : Addr} {ar : Arg} {N ps : List Str} {k : Nat} {sp : Sp} {q : Str} {params : Arguments} {scope : Scope} {kV doc pm ctv : Value} {an : Option Addr}
    {p0 p1 p2 pos pos2 : Pos} {e : Expr} {rest : List Stmt}
    (T : SupT K P C f (PySem.W.fnX "__init__" q params (.Expr (.Call (.Attribute (.Call (.Name "super" p0) [] [] p1) "__init__" p2) [e] [] pos) pos2 :: rest) scope [("__class__", cc)] .none kV doc pm an (.ref cda) ctv) cc cda ar)
    (hcd : PySem.W.codeIn K (.ref cda) q = true) (S : NScope N ps ["__class__"] scope) (hks : scope.names.lookup ("super" : Str) = some .globalImplicit) (hmg : mg "super" = none) (hN : N[0]? = some ar.arg) (hka : scope.names.lookup ar.arg = some .local)
    (len : ∀ vs H Q E, sp vs H Q E → vs.length = ps.length)
    (hbody : ∀ (A : Around) (outer : List Env) (s : Shared) (H : Hp) (vs : List V) (Q : VK) (E : XK), Room k (A.deeper (PySem.W.envX q scope s.heap.objs.size f (.ref cda) [("__class__", cc)])) → sp vs H Q E →
      ∃ a ta t, vs[0]? = some (.ref a) ∧ H a = some (exo a C none) ∧ PA (ncx CX P w K mg base N ⟨"__init__", q, params, .Expr (.Call (.Attribute (.Call (.Name "super" p0) [] [] p1) "__init__" p2) [e] [] pos) pos2 :: rest, scope, [("__class__", cc)], cda⟩ f A outer s H E) [e] ta ∧
        PSs (ncx CX P w K mg base N ⟨"__init__", q, params, .Expr (.Call (.Attribute (.Call (.Name "super" p0) [] [] p1) "__init__" p2) [e] [] pos) pos2 :: rest, scope, [("__class__", cc)], cda⟩ f A outer s H E) rest t ∧
        ta (startF N vs [none]) H fun us H1 => us.length ≤ 1000 ∧ H1 a = some (exo a C none) ∧ t { nx := fun _ H' => Q .non H', rt := Q } (startF N vs [none]) H1)
    (he : ∀ L : Addr, ∃ pl : Sem Bool, eval (.Call (.Attribute (.Call (.Name "super" p0) [] [] p1) "__init__" p2) [e] [] pos) (PySem.W.envX q scope L f (.ref cda) [("__class__", cc)]) = (do
      let ov ← attributeBase (.Call (.Name "super" p0) [] [] p1) "__init__" (PySem.W.envX q scope L f (.ref cda) [("__class__", cc)]) (eval (.Call (.Name "super" p0) [] [] p1) (PySem.W.envX q scope L f (.ref cda) [("__class__", cc)]))
      standAt p2.atName
      let (fx, first) ← holding [ov] (getMethod ov "__init__" pl)
      callWith pos fx first (backTo pos (starEach [e] (PySem.W.envX q scope L f (.ref cda) [("__class__", cc)]))) []))
    (hst : ∀ L : Addr, starEach [e] (PySem.W.envX q scope L f (.ref cda) [("__class__", cc)]) = (false, eval e (PySem.W.envX q scope L f (.ref cda) [("__class__", cc)])) :: starEach [] (PySem.W.envX q scope L f (.ref cda) [("__class__", cc)]))
    (hsw : ∀ L : Addr, swapsWith (.Call (.Attribute (.Call (.Name "super" p0) [] [] p1) "__init__" p2) [e] [] pos) none pos2.line (PySem.W.envX q scope L f (.ref cda) [("__class__", cc)]) = pure false)
    (hi : ∀ L : Addr, interactive (PySem.W.envX q scope L f (.ref cda) [("__class__", cc)]) = false) :
    FnOk P w K mg base CX (k + 1) f (PySem.W.fnX "__init__" q params (.Expr (.Call (.Attribute (.Call (.Name "super" p0) [] [] p1) "__init__" p2) [e] [] pos) pos2 :: rest) scope [("__class__", cc)] .none kV doc pm an (.ref cda) ctv) ps sp := by
  refine ⟨len, fun A outer s H args us vs Q E hr e0 hb r hsp => ?_⟩
  have hl := len _ _ _ _ hsp
  have KX : K.In s.heap := e0.mod.kin.keeps fun b o e => (e0.bs b o e).1
  have lim : s.heap.NoLimit := e0.mod.nolimit.keeps fun b o e => (e0.bs b o e).1
  obtain ⟨oc, od, osl, lk⟩ := T.fn
  refine PySem.ks_codeAny_call_defAt (binds := ps.zip us) hr.depth (KX _ _ lk) rfl lim (PySem.W.codeRec_of KX hcd) rfl hb S.nocell (fun y hy => S.par y.1 (List.of_mem_zip hy).1) (fun h₀ hns kp => ?_) S.co S.gen S.kind
  obtain ⟨a, ta, t, hv0, ea, hPA, hPS, hq⟩ := hbody A outer s H vs Q E (hr.deeper _) hsp
  obtain ⟨cl, cld, csl, hcell⟩ := T.cell
  have hcb : base.get? cc = some ⟨cl, cld, .cell (some (.ref C)), csl⟩ := e0.mod.kin _ _ hcell
  have C0 : CellsAt [("__class__", cc)] ["__class__"] [none] s.heap H := by
    refine ⟨rfl, fun y c z => ?_, fun x y c z1 z2 => ?_, fun i y z => ?_⟩
    · have : c = cc := by
        unfold List.lookup at z
        split at z
        · exact (Option.some.inj z).symm
        · cases z
      subst this
      exact ⟨(e0.bs _ _ hcb).2, _, _, KX _ _ hcell, rfl⟩
    · have h1 : x = "__class__" := by
        unfold List.lookup at z1
        split at z1
        · rename_i h
          exact eq_of_beq h
        · cases z1
      have h2 : y = "__class__" := by
        unfold List.lookup at z2
        split at z2
        · rename_i h
          exact eq_of_beq h
        · cases z2
      rw [h1, h2]
    · cases i with
      | zero =>
        cases z
        exact ⟨cc, rfl, fun v z => by cases z⟩
      | succ i => cases z
  have I : Inv (ncx CX P w K mg base N ⟨"__init__", q, params, .Expr (.Call (.Attribute (.Call (.Name "super" p0) [] [] p1) "__init__" p2) [e] [] pos) pos2 :: rest, scope, [("__class__", cc)], cda⟩ f A outer s H E) [] (startF N vs [none]) H { s with heap := h₀, toks := s.toks + (ps.zip us).length } :=
    inv_startN S hr.hd e0 hl r C0 hns kp
  have hσ : (startF N vs [none])[0]? = some (some (.ref a)) := by
    unfold startF
    rw [List.getElem?_append_left (by rw [List.length_map]; exact (List.getElem?_eq_some_iff.mp hv0).1), List.getElem?_map, hv0]
    rfl
  have hx := sup_eval (body := .Expr (.Call (.Attribute (.Call (.Name "super" p0) [] [] p1) "__init__" p2) [e] [] pos) pos2 :: rest) (Q := fun v H1 => t { nx := fun _ H' => Q .non H', rt := Q } (startF N vs [none]) H1) T I hks (S.frk "__class__" (by simp)) hka rfl rfl rfl hmg hN hσ ea hPA (.inl hka) hq (he _) (hst _)
  refine PySem.ks_wpAt_execs_cons (PySem.ks_wpAt_Expr_any (PySem.ks_wpAt_mono hx (fun v s' hv => ?_) fun e s' hs => hs) (hi _) (hsw _))
  obtain ⟨v2, H1, I1, _, q1⟩ := hv
  refine PySem.wpAt_of_wpAny (wpAny_mono (hPS.run [] _ _ H1 _ I1 q1) (fun fl s'' hs => ?_) fun e s' hs => hs)
  cases fl with
  | ret u =>
    obtain ⟨v, σ', H', J, rv, q⟩ := hs
    exact ⟨v, H', J.os, J.bare, J.base, J.hok, rv, q⟩
  | next =>
    obtain ⟨σ', H', J, q⟩ := hs
    exact ⟨V.non, H', J.os, J.bare, J.base, J.hok, rfl, q⟩
  | brk =>
    obtain ⟨_, _, _, q⟩ := hs
    exact False.elim q
  | cont =>
    obtain ⟨_, _, _, q⟩ := hs
    exact False.elim q
end Vl
set_option Elab.async false
set_option linter.all false
set_option maxRecDepth 100000
set_option maxHeartbeats 4000000
namespace Kt
open PySem PySem.Spec PyProof.Rows L2 Vl NdefX
abbrev Pk : Program := PySem.Challenge.pw_vatlink_k69_entries_exact
/-- the promise of Malformed.__init__ -/
def spMal (C : Addr) : Sp := Sp2 fun x y H Q _ => ∃ a, ∃ j : Nat, x = .ref a ∧ y = .int (j : Nat) ∧ j ≤ 10000000 ∧ H a = some (exo a C none) ∧ ∀ dx, H dx = none → dx ≠ a → Q .non (upd (upd H dx (exd dx [("place", .int (j : Nat))])) a (exo a C (some dx)))
theorem log_small {j : Nat} (h : j ≤ 10000000) : ((j : Nat) : Int).natAbs.log2 < 1920 := by
  rw [Int.natAbs_natCast]
  by_cases z : j = 0
  · rw [z]
    decide
  · rw [Nat.log2_lt z]
    exact Nat.lt_of_le_of_lt h (Nat.lt_of_lt_of_le (by decide : 10000000 < 2 ^ 24) (Nat.pow_le_pow_right (by decide) (by decide)))
variable {w : World} {K : PySem.W.Frag} {mg : Str → Option Value} {base : Heap}
theorem init_Malformed (T : Txt K mg) : ∃ fd, FnOk Pk w K mg base CX0 1 (u_Malformed.f K) fd ["self", "place"] (spMal (u_Malformed.C K)) ∧ Binds K fd ["self", "place"] [] := by
  obtain ⟨cc, cda, fd, S⟩ := T.s_Malformed
  obtain ⟨kV, doc, pm, an, ctv, rfl⟩ := S.fdE
  have oex : OexC K (u_Malformed.C K) := T.ex_Malformed.oex
  refine ⟨_, sup_ok (N := ["self", "place", "__class__"]) (ps := ["self", "place"]) (k := 0) (C := u_Malformed.C K) (cc := cc) (cda := cda) (ar := u_Malformed.params.args.getD 0 ⟨"", none, ⟨0, 0, 0, 0⟩⟩) (T := ⟨oex, S.fn, ?_, ?_, S.cell, S.sup, S.sub, S.mro, S.opq, ?_⟩) S.cod ?_ ?_ T.n_super rfl ?_ (fun vs H Q E h => l2 h) (fun A outer s H vs Q E hr h => ?_) ?_ ?_ ?_ ?_, ?_⟩
  · rfl
  · exact S.code
  · decide +kernel
  · exact nscope_by (by decide +kernel)
  · decide +kernel
  · decide +kernel
  · obtain ⟨x, y, rfl, a, j, rfl, rfl, hj, ea, k⟩ := h
    refine ⟨a, _, _, rfl, ea, pa_cons (pe_joined (.cons pe_str (.cons (pe_fmt (pv 1)) .nil))) pa_nil, pss_one (ps_ost (pv 0) (pv 1)), ?_⟩
    have e1 : startF ["self", "place", "__class__"] [V.ref a, V.int (j : Nat)] [none] = [some (.ref a), some (.int (j : Nat)), none] := rfl
    rw [e1, a_cons]
    refine ⟨_, rfl, by decide +kernel, ?_⟩
    show tFmt (tVar 1) _ _ _
    unfold tFmt
    rw [v1]
    refine .inr ⟨(j : Nat), rfl, log_small hj, _, rfl, ?_, ?_⟩
    · have h1 := int_text_len_1921 (log_small hj)
      have e2 : (Str.empty ++ ("malformed at place " : Str) ++ (toString ((j : Nat) : Int) : String)).length = 19 + (Str.ofString (toString ((j : Nat) : Int))).length := by
        show ((Str.empty ++ ("malformed at place " : Str)).cps ++ (Str.ofString (toString ((j : Nat) : Int))).cps).size = _
        rw [Array.size_append]
        have : (Str.empty ++ ("malformed at place " : Str)).cps.size = 19 := by decide +kernel
        rw [this]
        rfl
      rw [e2]
      exact Nat.le_trans (Nat.add_le_add_left h1 19) (by decide)
    · refine ⟨(by decide : 1 ≤ 1000), ea, ?_⟩
      show tVar 1 _ _ _
      rw [v1]
      show tVar 0 _ _ _
      rw [v0]
      exact ⟨a, _, rfl, oex, T.na_Malformed_place, .inl ⟨ea, k⟩⟩
  · intro L
    exact ⟨_, rfl⟩
  · intro L
    rfl
  · intro L
    rfl
  · intro L
    rfl
  · exact .all fun us hl => match us, hl with
      | [_, _], _ => rfl
end Kt
set_option Elab.async false
set_option linter.all false
set_option maxRecDepth 100000
set_option maxHeartbeats 4000000
namespace Kt
open PySem PySem.Spec PyProof.Rows L2 Vl
local macro_rules | `(tactic| walk_at "wp") => `(tactic| simp only [L2.start, cxK, a_seq, a_next, a_asg, a_ret, a_retN, a_drop, a_ifS, a_break, a_cont, a_c, a_op, a_un, a_nil, a_cons, a_tup, a_lst, a_call, a_meth, a_make, a_cb, a_bm0, a_m1, a_bm, a_fld, a_sfld, a_sfldAug, a_aug, a_test, a_tB, a_and, a_or, a_not, a_if, a_sl, a_noPart, a_part,
  a_for, a_iTup, a_iList, a_iStr, a_iRng1, a_iRng2, rng1, rng2, a_lc, a_yes, a_gTup, a_gCons, a_gNil, a_gSub, wipe, List.set_cons_zero, List.set_cons_succ,
  v0, v1, v2, v3, v4, v5, v6, v7, v8, v9, v10, n0, n1, n2, n3, n4, n5, n6, n7, n8, n9, n10, i_0, i_c, i_u, e_i, e_s, e_b, e_n, ne_i, ne_s, ne_b, tst, tsi, tss, tsr, Vl.s0, Vl.s1, Vl.s2, Vl.s3, Vl.s4, Vl.s5, List.map_cons, List.map_nil, List.length_cons, List.length_nil, List.replicate, List.cons_append, List.nil_append, Nat.reduceAdd, Nat.reduceSub, decide_eq_true_eq, ofS, String.reduceEq, decide_true, decide_false, Bool.false_eq_true, Bool.not_true, Bool.not_false, if_true, if_false])
local macro_rules | `(tactic| walk_at "wk") => `(tactic| simp only [L2.start, cxK, a_seq, a_next, a_asg, a_ret, a_retN, a_drop, a_ifS, a_break, a_cont, a_c, q_eq, q_ne, q_in, q_ix, q_i0, q_iC, a_un, a_nil, a_cons, a_tup, a_meth, a_make, a_cb, a_bm0, a_m1, a_bm, a_fld, a_sfld, a_sfldAug, a_aug, a_test, a_tB, a_and, a_or, a_not, a_if, a_sl, a_noPart, a_part,
  a_for, a_iTup, a_iList, a_iStr, a_iRng1, a_iRng2, rng1, rng2, a_lc, a_yes, a_gTup, a_gCons, a_gNil, a_gSub, wipe, List.set_cons_zero, List.set_cons_succ,
  v0, v1, v2, v3, v4, v5, v6, v7, v8, v9, v10, n0, n1, n2, n3, n4, n5, n6, n7, n8, n9, n10, i_0, i_c, i_u, e_i, e_s, e_b, e_n, ne_i, ne_s, ne_b, tst, tsi, tss, tsr, Vl.s0, Vl.s1, Vl.s2, Vl.s3, Vl.s4, Vl.s5, List.map_cons, List.map_nil, List.length_cons, List.length_nil, List.replicate, List.cons_append, List.nil_append, Nat.reduceAdd, Nat.reduceSub, decide_eq_true_eq, ofS, String.reduceEq, decide_true, decide_false, Bool.false_eq_true, Bool.not_true, Bool.not_false, if_true, if_false])
section
variable {P : Program} {w : World} {K : PySem.W.Frag} {mg : Str → Option Value} {base : Heap}
/-- at the end of the numbers: Malformed -/
def spDgE (K : PySem.W.Frag) : Sp := Sp2 fun a b H _ E => ∃ r lp L, ∃ most : Nat, a = .ref r ∧ b = .int (most : Nat) ∧ Rs K r lp L [] H ∧ most ≤ 10000 ∧ ∀ d H', Same H H' → H d = none → H' d = some (.xd [("place", .int (L.length : Nat))]) → E (.ref (He.ga K "Malformed")) (some d) H'
theorem ok_digits_end (T : Txt K mg) : OkM Pk w K mg base (L2.CX Pk w) (He.ga K "Reading") "digits" 3 ["self", "most"] (spDgE K) := by
  refine mkM T.d_Reading_digits T.cl_Reading T.m_Reading_digits sc_Reading_digits bw_Reading_digits (fun vs H Q E h => l2 h) (fun cdv A outer s H vs Q E hr h => ?_)
  obtain ⟨_, _, rfl, r, lp, L, most, rfl, rfl, R, hb, k⟩ := h
  obtain ⟨fdM, FM, BM⟩ := init_Malformed (w := w) (base := base) T
  refine ⟨_, (pss_cons (ps_set (i := 2) sc_Reading_digits.nd rfl (by first | exact Or.inl rfl | exact Or.inr rfl) pe_int)
    (pss_cons (ps_set (i := 3) sc_Reading_digits.nd rfl (by first | exact Or.inl rfl | exact Or.inr rfl) pe_int)
    (pss_cons (ps_for (passes_of rfl) rfl (pi_range1 (by rfl) T.n_range (pa_cons (pe_op op_add (pv 1) pe_int) pa_nil)) (pg_name (i := 4) sc_Reading_digits.nd rfl (by first | exact Or.inl rfl | exact Or.inr rfl))
      (pss_cons (ps_if (pt_cmpR op_ge (pe_fld (pv 0) rfl) (pe_callB call_len_seq (by rfl) T.n_len PySem.boot_len (pa_cons (pe_fld (pv 0) rfl) pa_nil)) (nomark _))
        (pss_one (ps_raise (W := fun cls d _ H' => E cls d H') rfl (takes_of rfl rfl rfl rfl) (pmk_oex T.ex_Malformed.oex T.ex_Malformed.ini T.ex_Malformed.tf FM hr BM .nil pass0 rfl T.g_Malformed
          (pa_cons (pe_callB call_len_seq (by rfl) T.n_len PySem.boot_len (pa_cons (pe_fld (pv 0) rfl) pa_nil)) pa_nil))))
        pss_nil) pss_never)) pss_never))), ?_⟩
  walk_at "wp"
  refine ⟨_, rfl, Int.le_trans (by decide : -(2 ^ 62 : Int) ≤ 0) (by omega), Int.lt_of_le_of_lt (by omega : (most : Int) + 1 ≤ 20000) (by decide), ?_⟩
  refine forN (fun i σ H2 => i = 0 ∧ σ = [some (.ref r), some (.int (most : Nat)), some (.int 0), some (.int 1), none, none] ∧ H2 = H) ⟨rfl, rfl, rfl⟩ ?_ ?_
  · rintro i σ H2 hi ⟨rfl, rfl, rfl⟩
    walk_at "wp"
    obtain ⟨dx, hx⟩ := R.2.1
    refine ⟨r, _, dx, _, _, rfl, hx, T.cl_Reading, T.na_Reading_at, rdF_at, r, _, dx, _, _, rfl, hx, T.cl_Reading, T.na_Reading_numbers, rdF_num, lp, _, rfl, .inl (.of R.2.2.1), ?_⟩
    rw [vlen]
    walk_at "wp"
    rw [if_pos (by simp)]
    simp only [tMkO, a_cons, a_cb, a_fld, v0, a_nil]
    refine ⟨r, _, dx, _, _, rfl, hx, T.cl_Reading, T.na_Reading_numbers, rdF_num, lp, _, rfl, .inl (.of R.2.2.1), ?_⟩
    rw [vlen]
    refine ⟨(by decide : 1 ≤ 1000), fun a na => ⟨_, _, rfl, a, L.length, rfl, rfl, R.2.2.2, upd_same, fun d nd ne => ⟨rfl, d, [("place", .int (L.length : Nat))], upd_same, ?_, ?_, ?_⟩⟩⟩
    · rw [upd_ne ne, upd_same]
    · rw [upd_ne ne] at nd
      exact nd
    · have nd2 := nd
      rw [upd_ne ne] at nd2
      refine k d _ (fun b o e => ?_) nd2 upd_same
      have e1 : b ≠ a := fun c => by
        rw [c, na] at e
        cases e
      have e2 : b ≠ d := fun c => by
        rw [c, nd2] at e
        cases e
      rw [upd_ne e2, del_ne e1, upd_ne e1, upd_ne e2, upd_ne e1]
      exact e
  · rintro σ H2 ⟨h, _⟩
    exact absurd h (by omega)
end
end Kt
set_option Elab.async false
set_option linter.all false
set_option maxRecDepth 100000
set_option maxHeartbeats 4000000
namespace Kt
open PySem PySem.Spec PyProof.Rows L2 Vl
local macro_rules | `(tactic| walk_at "wp") => `(tactic| simp only [L2.start, cxK, a_seq, a_next, a_asg, a_ret, a_retN, a_drop, a_ifS, a_break, a_cont, a_c, a_op, a_un, a_nil, a_cons, a_tup, a_lst, a_call, a_meth, a_make, a_cb, a_bm0, a_m1, a_bm, a_fld, a_sfld, a_sfldAug, a_aug, a_test, a_tB, a_and, a_or, a_not, a_if, a_sl, a_noPart, a_part,
  a_for, a_iTup, a_iList, a_iStr, a_iRng1, a_iRng2, rng1, rng2, a_lc, a_yes, a_gTup, a_gCons, a_gNil, a_gSub, wipe, List.set_cons_zero, List.set_cons_succ,
  v0, v1, v2, v3, v4, v5, v6, v7, v8, v9, v10, n0, n1, n2, n3, n4, n5, n6, n7, n8, n9, n10, i_0, i_c, i_u, e_i, e_s, e_b, e_n, ne_i, ne_s, ne_b, tst, tsi, tss, tsr, Vl.s0, Vl.s1, Vl.s2, Vl.s3, Vl.s4, Vl.s5, List.map_cons, List.map_nil, List.length_cons, List.length_nil, List.replicate, List.cons_append, List.nil_append, Nat.reduceAdd, Nat.reduceSub, decide_eq_true_eq, ofS, String.reduceEq, decide_true, decide_false, Bool.false_eq_true, Bool.not_true, Bool.not_false, if_true, if_false])
local macro_rules | `(tactic| walk_at "wk") => `(tactic| simp only [L2.start, cxK, a_seq, a_next, a_asg, a_ret, a_retN, a_drop, a_ifS, a_break, a_cont, a_c, q_eq, q_ne, q_in, q_ix, q_i0, q_iC, a_un, a_nil, a_cons, a_tup, a_meth, a_make, a_cb, a_bm0, a_m1, a_bm, a_fld, a_sfld, a_sfldAug, a_aug, a_test, a_tB, a_and, a_or, a_not, a_if, a_sl, a_noPart, a_part,
  a_for, a_iTup, a_iList, a_iStr, a_iRng1, a_iRng2, rng1, rng2, a_lc, a_yes, a_gTup, a_gCons, a_gNil, a_gSub, wipe, List.set_cons_zero, List.set_cons_succ,
  v0, v1, v2, v3, v4, v5, v6, v7, v8, v9, v10, n0, n1, n2, n3, n4, n5, n6, n7, n8, n9, n10, i_0, i_c, i_u, e_i, e_s, e_b, e_n, ne_i, ne_s, ne_b, tst, tsi, tss, tsr, Vl.s0, Vl.s1, Vl.s2, Vl.s3, Vl.s4, Vl.s5, List.map_cons, List.map_nil, List.length_cons, List.length_nil, List.replicate, List.cons_append, List.nil_append, Nat.reduceAdd, Nat.reduceSub, decide_eq_true_eq, ofS, String.reduceEq, decide_true, decide_false, Bool.false_eq_true, Bool.not_true, Bool.not_false, if_true, if_false])
section
variable {P : Program} {w : World} {K : PySem.W.Frag} {mg : Str → Option Value} {base : Heap}
/-- o.m(e, ..) whose exceptions are wished by the slots -/
def tMethS (C : Addr) (m : Str) (sp : Sp) (E : L2.St → XK) (ta : TE) (t : TA) : TE := fun σ H Q => ta σ H fun x H1 => ∃ a dx fs, x = .ref a ∧ H1 a = some (.ins C dx fs) ∧ fs.lookup m = none ∧ t σ H1 fun vs H2 => sp (x :: vs) H2 Q (E σ)
theorem mcallS {X : Cx} {CX : CXT} {k : Nat} {C : Addr} {ps : List Str} {sp : Sp} {E : L2.St → XK} {m : Str} {pos apos : Pos} {e o : Expr} {es : List Expr} {ta : TE} {t : TA} {pl : Sem Bool} (h : OkM X.prog X.w X.K X.mg X.base CX C m k ps sp) (hr : Room k X.A) (hx : ∀ σ, PassesAt CX X σ (E σ)) (he : PE X o ta) (ha : PA X (e :: es) t)
    (hst : starEach (e :: es) X.env = (false, eval e X.env) :: starEach es X.env := by rfl) (hpl : (backTo pos (starEach es X.env)).any (·.1) = false := by rfl)
    (ht : eval (.Call (.Attribute o m apos) (e :: es) [] pos) X.env = (do
      let ov ← eval o X.env
      standAt apos.atName
      let (f, first) ← holding [ov] (getMethod ov m pl)
      callWith pos f first (backTo pos (starEach (e :: es) X.env)) (backToKw pos (keywordEach [] X.env))) := by rfl) :
    PE X (.Call (.Attribute o m apos) (e :: es) [] pos) (tMethS C m sp E ta t) := by
  obtain ⟨f, fd, c, hm, hb, F⟩ := h
  refine ⟨fun pins s σ H Q I h => ?_⟩
  refine PySem.W.methodCall_KW (pl := pl) (thn (he.run pins s σ H _ I h) fun u s1 ⟨x, H1, I1, rx, a, dx, fs, ex, ea, l, q⟩ => ?_) ht
  subst ex
  obtain rfl : u = Value.ref a := rx
  refine getmeth_ok I1 ea c hm l ?_
  refine PySem.W.callWith_K (first := [.ref a]) (h₀ := X.base) I.ok.mod.kin hm.kp (thn (ha.run pos pins s1 σ H1 _ I1 q) fun us s2 ⟨vs, H2, I2, r, q2⟩ => ⟨I2.kIn, ?_⟩) hst hpl
  exact run_fnS (us := .ref a :: us) (vs := .ref a :: vs) F hr hb (hx σ) I2 (.cons rfl r) q2
def spCtE (K : PySem.W.Frag) : Sp := Sp3 fun a b c H _ E => ∃ r lp L, ∃ lo hi : Int, a = .ref r ∧ b = .int lo ∧ c = .int hi ∧ Rs K r lp L [] H ∧ ∀ d H', Same H H' → H d = none → H' d = some (.xd [("place", .int (L.length : Nat))]) → E (.ref (He.ga K "Malformed")) (some d) H'
theorem ok_count_end (T : Txt K mg) : OkM Pk w K mg base (L2.CX Pk w) (He.ga K "Reading") "count" 4 ["self", "least", "most"] (spCtE K) := by
  refine mkM T.d_Reading_count T.cl_Reading T.m_Reading_count sc_Reading_count bw_Reading_count (fun vs H Q E h => l3 h) (fun cdv A outer s H vs Q E hr h => ?_)
  obtain ⟨_, _, _, rfl, r, lp, L, lo, hi, rfl, rfl, rfl, R, k⟩ := h
  refine ⟨_, (pss_cons (ps_set (i := 3) sc_Reading_count.nd rfl (by first | exact Or.inl rfl | exact Or.inr rfl) (mcall (E := E) (ok_digits_end T) (hr.mono (by decide)) (passes_call (W := fun cls d _ H' => E cls d H') (takes_of rfl rfl rfl rfl) (fun _ _ _ _ h => h)) (pv 0) (pa_cons (pgI T.c_COUNT_DIGITS) pa_nil))) pss_never), ?_⟩
  walk_at "wp"
  exact R.m ⟨_, _, rfl, r, lp, L, 5, rfl, rfl, R, by decide, k⟩
/-- a reading put to a place -/
theorem seek {K : PySem.W.Frag} {r lp dx : Addr} {L t : List Int} {H : Hp} {p : Nat} (R : Rs K r lp L t H) (hp : p ≤ L.length) : Rs K r lp L (L.drop p) (upd H r (.ins (RC K) dx (putF "at" (.int (p : Nat)) (rdF lp (L.length - t.length))))) := by
  have ne := R.ne
  obtain ⟨_, _, h2, h3⟩ := R
  refine ⟨List.drop_suffix p L, ⟨dx, ?_⟩, ?_, h3⟩
  · rw [upd_same, rdF_put, List.length_drop, show L.length - (L.length - p) = p by omega]
  · rw [upd_ne ne]
    exact h2
def spNs (K : PySem.W.Frag) : Sp := Sp2 fun a b H Q _ => ∃ lp L, ∃ p : Nat, a = .ref lp ∧ b = .int (p : Nat) ∧ H lp = some (.lst (vints L)) ∧ L.length ≤ 10000000 ∧ p ≤ L.length ∧
  ((∃ n t, L.drop p = cntd n ++ t ∧ n ≤ 2000000000 ∧ ∀ v H', Same H H' → Dp K H' v (.tuple [pN n, pN (L.length - t.length)]) → Q v H') ∨ (L.drop p = [] ∧ ∀ v H', Same H H' → Dp K H' v (.tuple []) → Q v H'))
theorem ok_next_size (T : Txt K mg) : OkF Pk w K mg base CX0 "next_size" 5 ["numbers", "place"] (spNs K) := by
  refine mkF T.d_next_size T.g_next_size sc_next_size bw_next_size (fun vs H Q E h => l2 h) (fun cdv A outer s H vs Q E hr h => ?_)
  obtain ⟨_, _, rfl, lp, L, p, rfl, rfl, hlp, hL, hp, hcase⟩ := h
  have xf : XfC K (He.ga K "Malformed") := ⟨T.ex_Malformed.ga, T.ex_Malformed.gg, T.ex_Malformed.oex.exC, T.ex_Malformed.hd⟩
  rcases hcase with ⟨n, t, hd, hn, k⟩ | ⟨hd, k⟩
  · refine ⟨_, (pss_cons (ps_set (i := 2) sc_next_size.nd rfl (by first | exact Or.inl rfl | exact Or.inr rfl) (ccall (ok_Reading___init__ T) (hr.mono (by decide)) pass0 (pa_cons (pv 0) pa_nil)))
      (pss_cons (ps_fld (pv 2) (pv 1) rfl)
      (pss_cons (ps_try_as (i := 4) (Wout := fun _ _ _ _ => False) (ts := fun _ _ _ => tNever) (c := .ref (He.ga K "Malformed")) rfl rfl sc_next_size.nd rfl rfl ⟨rfl, by decide, .inl T.g_Malformed⟩ takes0
        (fun W pn xe tk po => pss_one (ps_set (i := 3) sc_next_size.nd rfl (by first | exact Or.inl rfl | exact Or.inr rfl) (mcall (ok_Reading_count T) (hr.mono (by decide)) pass0 (pv 2) (pa_cons pe_int (pa_cons (pgI T.c_SIZE_MOST) pa_nil)))))
        (fun a oe cls d pn hz hf => pss_never))
      (pss_one (ps_ret (pe_tup (pa_cons (pv 3) (pa_cons (pe_fld (pv 2) rfl) pa_nil)))))))), ?_⟩
    walk_at "wp"
    refine fun x dx nx nd ne => ⟨x, lp, dx, L, rfl, rfl, upd_same, ?_, hL, fun H1 h1 R1 => ⟨True.intro, ?_⟩⟩
    · rw [upd_ne (fun c => by rw [c, nx] at hlp; cases hlp), upd_ne (fun c => by rw [c, nd] at hlp; cases hlp)]
      exact hlp
    have s1 := Same.mk nx nd h1
    obtain ⟨dx1, hx1⟩ := R1.2.1
    refine ⟨x, _, dx1, _, rfl, hx1, T.cl_Reading, T.na_Reading_at, Nat.lt_of_le_of_lt (Nat.le_refl 2) (by decide), ?_⟩
    have R2 := seek (dx := dx1) R1 hp
    rw [hd] at R2
    refine R2.m (ctcall n R2 (by omega) (by omega) hn fun H3 f3 R3 => ?_)
    obtain ⟨dx3, hx3⟩ := R3.2.1
    have s3 : Same H H3 := Same.off s1 nx (Off.trans (fun b o nb e => by rw [upd_ne nb]; exact e) f3)
    exact ⟨x, _, dx3, _, _, rfl, hx3, T.cl_Reading, T.na_Reading_at, rdF_at, by decide, fun q nq => k _ _ (Same.put s3 (s3.free nq)) (dp_tup nq (.cons (.int _) (.cons (.int _) .nil)))⟩
  · refine ⟨_, (pss_cons (ps_set (i := 2) sc_next_size.nd rfl (by first | exact Or.inl rfl | exact Or.inr rfl) (ccall (ok_Reading___init__ T) (hr.mono (by decide)) pass0 (pa_cons (pv 0) pa_nil)))
      (pss_cons (ps_fld (pv 2) (pv 1) rfl)
      (pss_cons (ps_try_as (i := 4) (Wout := fun _ _ _ _ => False) (ts := fun a cls d => tSeq (tIfS (tTest (tOp rEq (tXf a cls d (He.ga K "Malformed") "place" (tVar 4)) (tCB (fun xs H Q => ∃ p ys, xs = [V.ref p] ∧ (SqL K H p ys ∨ SqT K H p ys) ∧ Q (V.int (ys.length : Int)) H) (tCons (tVar 0) tNil)))) (tRet (tTup tNil)) tNext) tNever) (c := .ref (He.ga K "Malformed")) rfl rfl sc_next_size.nd rfl rfl ⟨rfl, by decide, .inl T.g_Malformed⟩ takes0
        (fun W pn xe tk po => pss_one (ps_set (i := 3) sc_next_size.nd rfl (by first | exact Or.inl rfl | exact Or.inr rfl) (mcallS (E := fun σ cls d H' => W cls d σ H') (ok_count_end T) (hr.mono (by decide)) (fun σ => passAt tk σ) (pv 2) (pa_cons pe_int (pa_cons (pgI T.c_SIZE_MOST) pa_nil)))))
        (fun a oe cls d pn hz hf => pss_cons (ps_if (pt_cmpR op_eq (pe_xf xf T.na_Malformed_place hz hf (pv 4)) (pe_callB call_len_seq (by rfl) T.n_len PySem.boot_len (pa_cons (pv 0) pa_nil)) (nomark _)) (pss_one (ps_ret (pe_tup pa_nil))) pss_nil) pss_never))
      pss_never))), ?_⟩
    walk_at "wp"
    refine fun x dx nx nd ne => ⟨x, lp, dx, L, rfl, rfl, upd_same, ?_, hL, fun H1 h1 R1 => ⟨True.intro, ?_⟩⟩
    · rw [upd_ne (fun c => by rw [c, nx] at hlp; cases hlp), upd_ne (fun c => by rw [c, nd] at hlp; cases hlp)]
      exact hlp
    have s1 := Same.mk nx nd h1
    obtain ⟨dx1, hx1⟩ := R1.2.1
    refine ⟨x, _, dx1, _, rfl, hx1, T.cl_Reading, T.na_Reading_at, Nat.lt_of_le_of_lt (Nat.le_refl 2) (by decide), ?_⟩
    have R2 := seek (dx := dx1) R1 hp
    rw [hd] at R2
    simp only [tMethS, v2, a_cons, a_c, a_nil]
    have s2 : Same H (upd H1 x (.ins (RC K) dx1 (putF "at" (.int (p : Nat)) (rdF lp (L.length - L.length))))) := Same.off s1 nx (fun b o nb e => by rw [upd_ne nb]; exact e)
    refine R2.m ⟨_, _, _, rfl, x, lp, L, 0, 2000000000, rfl, rfl, rfl, R2, fun d H3 s3 nd3 e3 => ?_⟩
    have s4 := s2.trans s3
    refine ⟨true, T.ex_Malformed.exm, fun _ a na => ?_, fun h => by cases h⟩
    show tSeq _ _ _ [some (V.ref lp), some (V.int (p : Nat)), some (V.ref x), none, some (V.ref a)] H3
    walk_at "wp"
    show tXf _ _ _ _ _ _ _ _ _
    unfold tXf
    rw [v4]
    refine ⟨rfl, rfl, d, _, .int (L.length : Nat), rfl, e3, rfl, lp, _, rfl, .inl (.of (s4 _ _ hlp)), ?_⟩
    rw [vlen]
    walk_at "wp"
    exact ⟨by decide, fun q nq => k _ _ (Same.put s4 (s4.free nq)) (dp_tup nq .nil)⟩
end
end Kt
set_option Elab.async false
set_option linter.all false
set_option maxRecDepth 100000
set_option maxHeartbeats 4000000
namespace Kt
open PySem PySem.Spec PyProof.Rows L2 Vl
local macro_rules | `(tactic| walk_at "wp") => `(tactic| simp only [L2.start, cxK, a_seq, a_next, a_asg, a_ret, a_retN, a_drop, a_ifS, a_break, a_cont, a_c, a_op, a_un, a_nil, a_cons, a_tup, a_lst, a_call, a_meth, a_make, a_cb, a_bm0, a_m1, a_bm, a_fld, a_sfld, a_sfldAug, a_aug, a_test, a_tB, a_and, a_or, a_not, a_if, a_sl, a_noPart, a_part,
  a_for, a_iTup, a_iList, a_iStr, a_iRng1, a_iRng2, rng1, rng2, a_lc, a_yes, a_gTup, a_gCons, a_gNil, a_gSub, wipe, List.set_cons_zero, List.set_cons_succ,
  v0, v1, v2, v3, v4, v5, v6, v7, v8, v9, v10, n0, n1, n2, n3, n4, n5, n6, n7, n8, n9, n10, i_0, i_c, i_u, e_i, e_s, e_b, e_n, ne_i, ne_s, ne_b, tst, tsi, tss, tsr, Vl.s0, Vl.s1, Vl.s2, Vl.s3, Vl.s4, Vl.s5, List.map_cons, List.map_nil, List.length_cons, List.length_nil, List.replicate, List.cons_append, List.nil_append, Nat.reduceAdd, Nat.reduceSub, decide_eq_true_eq, ofS, String.reduceEq, decide_true, decide_false, Bool.false_eq_true, Bool.not_true, Bool.not_false, if_true, if_false])
local macro_rules | `(tactic| walk_at "wk") => `(tactic| simp only [L2.start, cxK, a_seq, a_next, a_asg, a_ret, a_retN, a_drop, a_ifS, a_break, a_cont, a_c, q_eq, q_ne, q_in, q_ix, q_i0, q_iC, a_un, a_nil, a_cons, a_tup, a_meth, a_make, a_cb, a_bm0, a_m1, a_bm, a_fld, a_sfld, a_sfldAug, a_aug, a_test, a_tB, a_and, a_or, a_not, a_if, a_sl, a_noPart, a_part,
  a_for, a_iTup, a_iList, a_iStr, a_iRng1, a_iRng2, rng1, rng2, a_lc, a_yes, a_gTup, a_gCons, a_gNil, a_gSub, wipe, List.set_cons_zero, List.set_cons_succ,
  v0, v1, v2, v3, v4, v5, v6, v7, v8, v9, v10, n0, n1, n2, n3, n4, n5, n6, n7, n8, n9, n10, i_0, i_c, i_u, e_i, e_s, e_b, e_n, ne_i, ne_s, ne_b, tst, tsi, tss, tsr, Vl.s0, Vl.s1, Vl.s2, Vl.s3, Vl.s4, Vl.s5, List.map_cons, List.map_nil, List.length_cons, List.length_nil, List.replicate, List.cons_append, List.nil_append, Nat.reduceAdd, Nat.reduceSub, decide_eq_true_eq, ofS, String.reduceEq, decide_true, decide_false, Bool.false_eq_true, Bool.not_true, Bool.not_false, if_true, if_false])
section
variable {P : Program} {w : World} {K : PySem.W.Frag} {mg : Str → Option Value} {base : Heap}
def spRE (K : PySem.W.Frag) : Sp := Sp1 fun a H Q _ => ∃ lp, ∃ c : DEn, a = .ref lp ∧ H lp = some (.lst (vints (c.k :: c.c))) ∧ (c.k :: c.c).length ≤ 1000000 ∧ c.ok ∧ ∀ v H', Same H H' → Dp K H' v c.d → Q v H'
theorem ok_read_entry' (T : Txt K mg) : OkF P w K mg base CX0 "read_entry" 10 ["numbers"] (spRE K) := ok_read_entry T
/-- the pairs of a journal -/
def jrow (cs : List DEn) (i : Nat) : PyData := .tuple [((cs[i]?).map DEn.d).getD .none, pN ((cs.take (i + 1)).flatMap DEn.e).length]
def jrows (cs : List DEn) (n : Nat) : List PyData := (List.range n).map (jrow cs)
def spRj (K : PySem.W.Frag) : Sp := Sp1 fun a H Q _ => ∃ lp, ∃ cs : List DEn, a = .ref lp ∧ H lp = some (.lst (vints (cs.flatMap DEn.e))) ∧ (cs.flatMap DEn.e).length ≤ 1000000 ∧ cs ≠ [] ∧ (∀ c ∈ cs, c.ok) ∧ (∀ i c, cs[i]? = some c → (c.kd = "start" ↔ i = 0)) ∧
  ∀ q H' ys, Same H H' → H q = none → H' q = some (.lst ys) → DpAll K H' ys (jrows cs cs.length) → Q (.ref q) H'
theorem ok_read_journal (T : Txt K mg) : OkF Pk w K mg base CX0 "read_journal" 11 ["numbers"] (spRj K) := by
  refine mkF T.d_read_journal T.g_read_journal sc_read_journal bw_read_journal (fun vs H Q E h => l1 h) (fun cdv A outer s H vs Q E hr h => ?_)
  obtain ⟨_, rfl, lp, cs, rfl, hlp, hL, hne, hok, hst, k⟩ := h
  refine ⟨_, (pss_cons (ps_set (i := 1) sc_read_journal.nd rfl (by first | exact Or.inl rfl | exact Or.inr rfl) (pe_lst pa_nil))
    (pss_cons (ps_set (i := 2) sc_read_journal.nd rfl (by first | exact Or.inl rfl | exact Or.inr rfl) pe_int)
    (pss_cons (ps_while (passes_of rfl) (pt_val pe_bl)
      (pss_cons (ps_set (i := 3) sc_read_journal.nd rfl (by first | exact Or.inl rfl | exact Or.inr rfl) (fcall (ok_next_size T) (hr.mono (by decide)) pass0 (pa_cons (pv 0) (pa_cons (pv 2) pa_nil))))
      (pss_cons (ps_if (PW.pt (pw_or (pt_cmpR (op_eqD (Nat.lt_trans (Nat.lt_succ_self _) (hu65 hr))) (pv 3) (pe_tup pa_nil) (nomark _)) (pw_or1 (pt_cmpR op_gt (pe_op op_add (pe_ix ix_tup (pv 3) pe_int (fun _ _ => rfl)) (pe_ix ix_tup (pv 3) pe_int (fun _ _ => rfl))) (pe_callB call_len_seq (by rfl) T.n_len PySem.boot_len (pa_cons (pv 0) pa_nil)) (nomark _))))) (pss_one ps_break) pss_nil)
      (pss_cons (ps_set (i := 4) sc_read_journal.nd rfl (by first | exact Or.inl rfl | exact Or.inr rfl) (pe_op op_add (pe_ix ix_tup (pv 3) pe_int (fun _ _ => rfl)) (pe_ix ix_tup (pv 3) pe_int (fun _ _ => rfl))))
      (pss_cons (ps_try_only (Wout := fun _ _ _ _ => False) (ts := fun _ _ _ => tNever) (c := .ref (He.ga K "Malformed")) (tb := fun W => tAsg (tCall (spRE K) [] E0 (tCons (tSl (rSlL K) (tVar 0) (tPart (tOp (rIxT K) (tVar 3) (tC (.int 1)))) (tPart (tVar 4))) tNil)) (gName 5)) rfl rfl ⟨rfl, by decide, .inl T.g_Malformed⟩ takes0
        (fun W pn xe tk po => pss_one (ps_set (i := 5) sc_read_journal.nd rfl (by first | exact Or.inl rfl | exact Or.inr rfl) (fcall (ok_read_entry' T) (hr.mono (by decide)) pass0 (pa_cons (pe_slice sl_list (pv 0) (po_some (pe_ix ix_tup (pv 3) pe_int (fun _ _ => rfl))) (po_some (pv 4))) pa_nil))))
        (fun a oe cls d pn hz hf => pss_never))
      (pss_cons (ps_if (pt_cmpR op_ne (pe_cmpR op_eq (pe_ix ix_tup (pv 5) pe_int (fun _ _ => rfl)) pe_str (nomark _)) (pe_cmpR op_eq (pv 2) pe_int (nomark _)) (nomark _)) (pss_one ps_never) pss_nil)
      (pss_cons (ps_expr (pe_bm PySem.F.plainAttrs_list PySem.F.slot_list_append PySem.F.type_list_append mt_append (pv 1) (pa_cons (pe_tup (pa_cons (pv 5) (pa_cons (pv 4) pa_nil))) pa_nil)))
      (pss_one (ps_set (i := 2) sc_read_journal.nd rfl (by first | exact Or.inl rfl | exact Or.inr rfl) (pv 4))))))))))
    (pss_cons (ps_if (pt_cmpR op_eq (pe_callB call_len_seq (by rfl) T.n_len PySem.boot_len (pa_cons (pv 1) pa_nil)) pe_int (nomark _)) (pss_one ps_never) pss_nil)
    (pss_one (ps_ret (pv 1))))))), ?_⟩
  walk_at "wp"
  refine ⟨by decide, fun p np => ?_⟩
  have hpl : ∀ i, ((cs.take i).flatMap DEn.e).length ≤ (cs.flatMap DEn.e).length := fun i => by
    have : cs.flatMap DEn.e = (cs.take i).flatMap DEn.e ++ (cs.drop i).flatMap DEn.e := by rw [← List.flatMap_append, List.take_append_drop]
    rw [this, List.length_append]
    omega
  have hdrop : ∀ i, (cs.flatMap DEn.e).drop ((cs.take i).flatMap DEn.e).length = (cs.drop i).flatMap DEn.e := fun i => by
    have : cs.flatMap DEn.e = (cs.take i).flatMap DEn.e ++ (cs.drop i).flatMap DEn.e := by rw [← List.flatMap_append, List.take_append_drop]
    rw [this, List.drop_left']
    rfl
  refine st_while (fun m σ H2 => ∃ i ys y3 y4 y5, i ≤ cs.length ∧ m = cs.length - i ∧ σ = [some (.ref lp), some (.ref p), some (.int (((cs.take i).flatMap DEn.e).length : Nat)), y3, y4, y5] ∧ Same H H2 ∧ H2 p = some (.lst ys) ∧ DpAll K H2 ys (jrows cs i))
    (fun σ H2 => ∃ ys y2 y3 y4 y5, σ = [some (.ref lp), some (.ref p), y2, y3, y4, y5] ∧ Same H H2 ∧ H2 p = some (.lst ys) ∧ DpAll K H2 ys (jrows cs cs.length)) cs.length ⟨0, [], none, none, none, Nat.zero_le _, rfl, rfl, Same.new np, upd_same, .nil⟩ (fun _ _ _ _ Q q => ⟨true, rfl, q⟩) ?_ ?_
  · rintro σ H2 ⟨ys, y2, y3, y4, y5, rfl, s2, e2, hA⟩
    have hl : ys.length = cs.length := by rw [DpAll.length hA, jrows, List.length_map, List.length_range]
    walk_at "wp"
    refine ⟨p, ys, rfl, .inl (.of e2), ?_⟩
    rw [if_neg (by
      have : 0 < cs.length := List.length_pos_iff.mpr hne
      omega)]
    exact k _ _ _ s2 np e2 hA
  · rintro N Bk m σ H2 ⟨i, ys, y3, y4, y5, hi, rfl, rfl, s2, e2, hA⟩ hN hB
    have hl : ys.length = i := by rw [DpAll.length hA, jrows, List.length_map, List.length_range]
    walk_at "wp"
    refine ⟨_, _, rfl, lp, cs.flatMap DEn.e, ((cs.take i).flatMap DEn.e).length, rfl, rfl, s2 _ _ hlp, by omega, hpl i, ?_⟩
    by_cases hlt : i < cs.length
    · have hc : cs.drop i = cs[i] :: cs.drop (i + 1) := List.drop_eq_getElem_cons hlt
      have hci : cs[i]? = some cs[i] := List.getElem?_eq_getElem hlt
      have hcok := hok _ (List.getElem_mem hlt)
      have htk : (cs.take (i + 1)).flatMap DEn.e = (cs.take i).flatMap DEn.e ++ cs[i].e := by
        rw [List.take_add_one, hci, List.flatMap_append]
        simp
      have hd1 := hdrop i
      rw [hc, List.flatMap_cons, DEn.e, List.append_assoc] at hd1
      obtain ⟨n, hn⟩ : ∃ n, n = (cs[i].k :: cs[i].c).length := ⟨_, rfl⟩
      rw [← hn] at hd1
      have hlen := congrArg List.length hd1
      rw [List.length_drop, List.length_append] at hlen
      have hpi := hpl i
      have hpi1 := hpl (i + 1)
      have htl : ((cs.take (i + 1)).flatMap DEn.e).length = ((cs.take i).flatMap DEn.e).length + (cntd n).length + n := by
        rw [htk, List.length_append, DEn.e, List.length_append, ← hn]
        omega
      rw [htl] at hpi1
      rw [List.length_append, ← hn] at hlen
      refine .inl ⟨_, _, hd1, by omega, fun row H3 s3 hrow => ?_⟩
      have hq : (cs.flatMap DEn.e).length - (cs[i].k :: cs[i].c ++ (cs.drop (i + 1)).flatMap DEn.e).length = ((cs.take i).flatMap DEn.e).length + (cntd n).length := by
        rw [List.length_append, ← hn]
        omega
      rw [hq] at hrow
      have s23 := s2.trans s3
      obtain ⟨rb, r1, r2, rfl, hS, hr1, hr2⟩ := dT2 hrow
      rw [pN, dI] at hr1 hr2
      subst hr1 hr2
      walk_at "wp"
      refine ⟨by decide, fun p4 np4 => ⟨_, _, (SeqKeep.of (Same.new np4)).dp hrow, dp_tup np4 .nil, sh_pair _ _, sh_nil, ?_⟩⟩
      have s4 := Same.put (o := .tup []) s23 (s23.free np4)
      have hS4 := (TupKeep.of (Same.new (o := .tup []) np4)).sqT hS
      refine ⟨false, rfl, ?_⟩
      rw [if_neg (by decide)]
      refine ix_t hS4 rfl (ix_t hS4 rfl ?_)
      walk_at "wp"
      refine ⟨lp, _, rfl, .inl (.of (s4 _ _ hlp)), ?_⟩
      rw [vlen]
      rw [if_neg (by omega)]
      refine ix_t hS4 rfl (ix_t hS4 rfl ?_)
      walk_at "wp"
      refine ix_t hS4 rfl ⟨_, rfl, ?_⟩
      have hd2 : (cs.flatMap DEn.e).drop (((cs.take i).flatMap DEn.e).length + (cntd n).length) = (cs[i].k :: cs[i].c) ++ (cs.drop (i + 1)).flatMap DEn.e := by
        rw [← List.drop_drop, hd1, List.drop_left']
        rfl
      have hcut := cut2 (xs := vints (cs.flatMap DEn.e)) (u := vints (cs[i].k :: cs[i].c)) (t := vints ((cs.drop (i + 1)).flatMap DEn.e)) (p := ((cs.take i).flatMap DEn.e).length + (cntd n).length) (n := n) (by
        unfold vints
        rw [← List.map_drop, hd2, List.map_append]) (by rw [vlen, hn]) (by
        rw [vlen]
        omega)
      rw [show ((((cs.take i).flatMap DEn.e).length + (cntd n).length : Nat) : Int) + (n : Int) = ((((cs.take i).flatMap DEn.e).length + (cntd n).length + n : Nat) : Int) by omega]
      refine ⟨lp, _, rfl, .of (s4 _ _ hlp), fun p5 np5 => ?_⟩
      rw [hcut]
      have s5 := Same.put (o := .lst (vints (cs[i].k :: cs[i].c))) s4 (s4.free np5)
      refine ⟨_, rfl, p5, cs[i], rfl, upd_same, by omega, hcok, fun ev H6 s6 hev => ?_⟩
      have s56 := s5.trans s6
      have e6 : H6 p = some (.lst ys) := s6 _ _ (Same.new np5 _ _ (Same.new np4 _ _ (s3 _ _ e2)))
      have hA6 := (SeqKeep.of (s3.trans ((Same.new np4).trans ((Same.new np5).trans s6)))).dpAll hA
      have hev0 := hev
      obtain ⟨eb, es, rfl, hSe⟩ := en_head _ hev
      refine ix_t hSe (atI_nat (j := 0) rfl) ?_
      have hi0 : ((((cs.take i).flatMap DEn.e).length : Nat) : Int) = 0 ↔ i = 0 := by
        constructor
        · intro h
          have h1 := flat_pos DEn.e (fun x => by
            rw [DEn.e, List.length_append]
            have := cnt_pos (x.k :: x.c).length
            omega) (cs.take i)
          rw [List.length_take] at h1
          omega
        · intro h
          rw [h]
          rfl
      rw [e_s, ne_b]
      have hb : decide (Str.ofString cs[i].kd = Str.ofString "start") = decide (((((cs.take i).flatMap DEn.e).length : Nat) : Int) = 0) := decide_eq_decide.mpr (by rw [ofS, hst i _ hci, hi0])
      rw [hb]
      refine ⟨false, by simp, ?_⟩
      rw [if_neg (by decide)]
      refine ⟨ty_lst (.of e6), by decide, fun p7 np7 => ?_⟩
      have n7 : p ≠ p7 := fun c => by
        rw [← c, e6] at np7
        cases np7
      have e7 : (upd H6 p7 (.tup [.ref eb, .int ((((cs.take i).flatMap DEn.e).length + (cntd n).length + n : Nat) : Int)])) p = some (.lst ys) := by
        rw [upd_ne n7]
        exact e6
      refine m_app e7 (small1000000 (by
        have := flat_pos DEn.e (fun x => by
            rw [DEn.e, List.length_append]
            have := cnt_pos (x.k :: x.c).length
            omega) cs
        omega)) (hN (cs.length - (i + 1)) _ _ (by omega) ⟨i + 1, ys ++ [.ref p7], _, _, _, hlt, rfl, by rw [htl], Same.put (Same.put s56 (s56.free np7)) np, upd_same, ?_⟩)
      have t8 := tup_upd (zs := ys ++ [V.ref p7]) e7
      have nlr : ∀ m, noLs (jrows cs m) = true := fun m => by
        unfold jrows
        refine noLs_of (fun j => ?_) _
        unfold jrow
        refine nl_tup (noLs_cons ?_ (noLs_cons rfl rfl))
        cases cs[j]? with
        | none => rfl
        | some c => exact nl_en c
      have er : jrows cs (i + 1) = jrows cs i ++ [jrow cs i] := by
        unfold jrows
        rw [List.range_succ, List.map_append]
        rfl
      rw [er]
      refine DpAll.app (t8.dpAll (nlr i) ((SeqKeep.of (Same.new np7)).dpAll hA6)) (.cons (t8.dp ?_ ?_) .nil)
      · unfold jrow
        rw [hci]
        exact nl_tup (noLs_cons (nl_en _) (noLs_cons rfl rfl))
      · unfold jrow
        rw [hci, htl]
        exact dp_tup np7 (.cons hev0 (.cons (.int _) .nil))
    · have hie : i = cs.length := by omega
      subst hie
      refine .inr ⟨by rw [hdrop, List.drop_length]; rfl, fun row H3 s3 hrow => ?_⟩
      have s23 := s2.trans s3
      walk_at "wp"
      refine ⟨by decide, fun p4 np4 => ⟨_, _, (SeqKeep.of (Same.new np4)).dp hrow, dp_tup np4 .nil, sh_nil, sh_nil, ?_⟩⟩
      have s4 := Same.put (o := .tup []) s23 (s23.free np4)
      refine ⟨true, rfl, ?_⟩
      rw [if_pos rfl]
      have e4 : (upd H3 p4 (.tup [])) p = some (.lst ys) := by
        rw [upd_ne (fun c => by rw [← c, s3 _ _ e2] at np4; cases np4)]
        exact s3 _ _ e2
      exact hB _ _ ⟨ys, _, _, _, _, rfl, s4, e4, (SeqKeep.of (s3.trans (Same.new np4))).dpAll hA⟩
end
end Kt
set_option Elab.async false
set_option linter.all false
set_option maxRecDepth 100000
set_option maxHeartbeats 4000000
namespace Kt
open PySem PySem.Spec PyProof.Rows L2 Vl
local macro_rules | `(tactic| walk_at "wp") => `(tactic| simp only [L2.start, cxK, a_seq, a_next, a_asg, a_ret, a_retN, a_drop, a_ifS, a_break, a_cont, a_c, a_op, a_un, a_nil, a_cons, a_tup, a_lst, a_call, a_meth, a_make, a_cb, a_bm0, a_m1, a_bm, a_fld, a_sfld, a_sfldAug, a_aug, a_test, a_tB, a_and, a_or, a_not, a_if, a_sl, a_noPart, a_part,
  a_for, a_iTup, a_iList, a_iStr, a_iRng1, a_iRng2, rng1, rng2, a_lc, a_yes, a_gTup, a_gCons, a_gNil, a_gSub, wipe, List.set_cons_zero, List.set_cons_succ,
  v0, v1, v2, v3, v4, v5, v6, v7, v8, v9, v10, n0, n1, n2, n3, n4, n5, n6, n7, n8, n9, n10, i_0, i_c, i_u, e_i, e_s, e_b, e_n, ne_i, ne_s, ne_b, tst, tsi, tss, tsr, Vl.s0, Vl.s1, Vl.s2, Vl.s3, Vl.s4, Vl.s5, List.map_cons, List.map_nil, List.length_cons, List.length_nil, List.replicate, List.cons_append, List.nil_append, Nat.reduceAdd, Nat.reduceSub, decide_eq_true_eq, ofS, String.reduceEq, decide_true, decide_false, Bool.false_eq_true, Bool.not_true, Bool.not_false, if_true, if_false])
local macro_rules | `(tactic| walk_at "wk") => `(tactic| simp only [L2.start, cxK, a_seq, a_next, a_asg, a_ret, a_retN, a_drop, a_ifS, a_break, a_cont, a_c, q_eq, q_ne, q_in, q_ix, q_i0, q_iC, a_un, a_nil, a_cons, a_tup, a_meth, a_make, a_cb, a_bm0, a_m1, a_bm, a_fld, a_sfld, a_sfldAug, a_aug, a_test, a_tB, a_and, a_or, a_not, a_if, a_sl, a_noPart, a_part,
  a_for, a_iTup, a_iList, a_iStr, a_iRng1, a_iRng2, rng1, rng2, a_lc, a_yes, a_gTup, a_gCons, a_gNil, a_gSub, wipe, List.set_cons_zero, List.set_cons_succ,
  v0, v1, v2, v3, v4, v5, v6, v7, v8, v9, v10, n0, n1, n2, n3, n4, n5, n6, n7, n8, n9, n10, i_0, i_c, i_u, e_i, e_s, e_b, e_n, ne_i, ne_s, ne_b, tst, tsi, tss, tsr, Vl.s0, Vl.s1, Vl.s2, Vl.s3, Vl.s4, Vl.s5, List.map_cons, List.map_nil, List.length_cons, List.length_nil, List.replicate, List.cons_append, List.nil_append, Nat.reduceAdd, Nat.reduceSub, decide_eq_true_eq, ofS, String.reduceEq, decide_true, decide_false, Bool.false_eq_true, Bool.not_true, Bool.not_false, if_true, if_false])
section
variable {P : Program} {w : World} {K : PySem.W.Frag} {mg : Str → Option Value} {base : Heap}
theorem eqv_ints : ∀ l : List Int, PyData.eqvAll (l.map .int) (l.map .int) = true
  | [] => rfl
  | i :: l => by
    rw [List.map_cons, PyData.eqvAll, eqv_ints l]
    simp [PyData.eqv]
theorem eqv_list (l : List Int) : PyData.eqv (.list (l.map .int)) (.list (l.map .int)) = true := by
  rw [PyData.eqv]
  exact eqv_ints l
theorem sh_list {l : List Int} (h : B8 l) : SeqAt.shaped (.list (l.map .int)) = true := by
  obtain ⟨h1, h2, h3, h4, h5, h6⟩ := ints_all l h
  exact shaped_of (by unfold PyData.canLay0; exact h3) (by unfold PyData.depth; omega)
theorem jrows2 (c1 c2 : DEn) : jrows [c1, c2] 2 = [.tuple [c1.d, pN c1.e.length], .tuple [c2.d, pN (c1.e ++ c2.e).length]] := by
  have e : List.range 2 = [0, 1] := rfl
  unfold jrows jrow
  rw [e]
  simp
theorem ok_law (T : Txt K mg) : OkG Pk w K mg base CX0 "law" 12 ["script"] (Sp1 fun a H Q _ => ∃ sl, ∃ l : List Int, a = .ref sl ∧ SqL K H sl (vints l) ∧ l.length ≤ 63 ∧ ∀ H', Q (.bl true) H') := by
  refine mkG T.d_law T.g_law sc_law bw_law (fun vs H Q E h => l1 h) (fun cdv A outer s H vs Q E hgd hr h => ?_)
  obtain ⟨a, rfl, sl, l, rfl, hS, hl, k⟩ := h
  refine ⟨_, PSs.nox ((pss_cons (ps_set (i := 1) sc_law.nd rfl (by first | exact Or.inl rfl | exact Or.inr rfl) (pe_lst (pa_cons (fcall (ok__law_digits T) (hr.mono (by decide)) pass0 (pa_cons (pv 0) (pa_cons pe_int (pa_cons pe_int pa_nil)))) (pa_cons pe_int pa_nil))))
    (pss_cons (ps_set (i := 2) sc_law.nd rfl (by first | exact Or.inl rfl | exact Or.inr rfl) (pe_tup (pa_cons pe_str (pa_cons (pe_op op_add pe_int (fcall (ok__law_draw T) (hr.mono (by decide)) pass0 (pa_cons (pv 1) (pa_cons pe_int pa_nil)))) (pa_cons (fcall (ok__law_program T) (hr.mono (by decide)) pass0 (pa_cons (pv 1) pa_nil)) pa_nil)))))
    (pss_cons (ps_set (i := 3) sc_law.nd rfl (by first | exact Or.inl rfl | exact Or.inr rfl) (fcall (ok__law_written T) (hr.mono (by decide)) pass0 (pa_cons (pv 2) pa_nil)))
    (pss_cons (ps_set (i := 4) sc_law.nd rfl (by first | exact Or.inl rfl | exact Or.inr rfl) (fcall (ok_write_entry T) (hr.mono (by decide)) pass0 (pa_cons (pv 2) pa_nil)))
    (pss_cons (ps_if (PW.pt (pw_or (pt_not (pt_val (pe_callB call_isi (by rfl) T.n_isinstance (by decide +kernel) (pa_cons (pv 4) (pa_cons (pe_bltn (v := .ty "list") (by rfl) T.n_list (by decide +kernel) rfl) pa_nil))))) (pw_or1 (pt_not (pt_val (gcall (ok__law_same T) hgd (hr.mono (by decide)) pass0 (pa_cons (pv 4) (pa_cons (pv 3) pa_nil))))))))
      (pss_one (ps_ret pe_bl))
      pss_nil)
    (pss_cons (ps_for PassesOwn.never rfl (pi_range1 (by rfl) T.n_range (pa_cons pe_int pa_nil)) (pg_name (i := 5) sc_law.nd rfl (by first | exact Or.inl rfl | exact Or.inr rfl))
      (pss_cons (ps_set (i := 6) sc_law.nd rfl (by first | exact Or.inl rfl | exact Or.inr rfl) (fcall (ok__law_entry T) (hr.mono (by decide)) pass0 (pa_cons (pv 1) pa_nil)))
    (pss_cons (ps_set (i := 7) sc_law.nd rfl (by first | exact Or.inl rfl | exact Or.inr rfl) (fcall (ok__law_written T) (hr.mono (by decide)) pass0 (pa_cons (pv 6) pa_nil)))
    (pss_cons (ps_set (i := 4) sc_law.nd rfl (by first | exact Or.inl rfl | exact Or.inr rfl) (fcall (ok_write_entry T) (hr.mono (by decide)) pass0 (pa_cons (pv 6) pa_nil)))
    (pss_cons (ps_if (PW.pt (pw_or (pt_not (pt_val (pe_callB call_isi (by rfl) T.n_isinstance (by decide +kernel) (pa_cons (pv 4) (pa_cons (pe_bltn (v := .ty "list") (by rfl) T.n_list (by decide +kernel) rfl) pa_nil))))) (pw_or1 (pt_not (pt_val (gcall (ok__law_same T) hgd (hr.mono (by decide)) pass0 (pa_cons (pv 4) (pa_cons (pv 7) pa_nil))))))))
      (pss_one (ps_ret pe_bl))
      pss_nil)
    (pss_cons (ps_expr (pe_bm PySem.F.plainAttrs_list PySem.F.slot_list_append PySem.F.type_list_append mt_append (pv 4) (pa_cons pe_int pa_nil)))
    (pss_cons (ps_if (pt_not (pt_val (gcall (ok__law_same T) hgd (hr.mono (by decide)) pass0 (pa_cons (fcall (ok_write_entry T) (hr.mono (by decide)) pass0 (pa_cons (pv 6) pa_nil)) (pa_cons (pv 7) pa_nil)))))
      (pss_one (ps_ret pe_bl))
      pss_nil)
    (pss_cons (ps_set (i := 8) sc_law.nd rfl (by first | exact Or.inl rfl | exact Or.inr rfl) (pe_op op_cat (pv 3) (pv 7)))
    (pss_cons (ps_set (i := 9) sc_law.nd rfl (by first | exact Or.inl rfl | exact Or.inr rfl) (pe_lst (pa_cons (pe_tup (pa_cons (pv 2) (pa_cons (pe_callB call_len_seq (by rfl) T.n_len PySem.boot_len (pa_cons (pv 3) pa_nil)) pa_nil))) (pa_cons (pe_tup (pa_cons (pv 6) (pa_cons (pe_op op_add (pe_callB call_len_seq (by rfl) T.n_len PySem.boot_len (pa_cons (pv 3) pa_nil)) (pe_callB call_len_seq (by rfl) T.n_len PySem.boot_len (pa_cons (pv 7) pa_nil))) pa_nil))) pa_nil))))
    (pss_one (ps_if (PW.pt (pw_or (pt_not (pt_val (gcall (ok__law_same T) hgd (hr.mono (by decide)) pass0 (pa_cons (fcall (ok_read_journal T) (hr.mono (by decide)) pass0 (pa_cons (pv 8) pa_nil)) (pa_cons (pv 9) pa_nil))))) (pw_or1 (pt_cmpR (op_neD (Nat.lt_trans (Nat.lt_succ_self _) (hu65 hr))) (pv 8) (pe_op op_cat (pv 3) (pv 7)) (nomark _)))))
      (pss_one (ps_ret pe_bl))
      pss_nil)))))))))))
    (pss_one (ps_ret pe_bl))))))))), ?_⟩
  walk_at "wp"
  refine ⟨sl, l, rfl, True.intro, True.intro, hS, hl, fun p H1 dg s1 np1 e1 => ?_⟩
  refine ⟨by decide, fun b nb => ?_⟩
  have nbp : b ≠ p := fun c => by
    rw [c, e1] at nb
    cases nb
  have B0 : Bb b p (upd H1 b (.lst [.ref p, .int 0])) := ⟨nbp, dg, 0, upd_same, by
    rw [upd_ne (Ne.symm nbp)]
    exact e1⟩
  refine dcall 9 rfl (by decide) B0 fun H2 d2 o2 B2 h2 => ?_
  walk_at "wp"
  refine gcall' B2 fun vp H3 ks o3 B3 e3 q3 => ⟨by decide, fun ps nps => ?_⟩
  have B4 := B3.new (o := .tup [V.str "start", .int (1 + (d2 : Int)), vp]) nps
  have st : Dp K (upd H3 ps (.tup [V.str "start", .int (1 + (d2 : Int)), vp])) (.ref ps) (DEn.start (d2 + 1) ks).d := dp_tup nps (.cons (.str _) (.cons (by rw [pN, dI, show (1 + (d2 : Int)) = ((d2 + 1 : Nat) : Int) by omega]) (.cons e3 .nil)))
  have sok : (DEn.start (d2 + 1) ks).ok := ⟨⟨by omega, by omega⟩, q3.1, q3.2⟩
  have slen := en_len sok True.intro
  refine wcall (DEn.start (d2 + 1) ks) st sok (by omega) fun pf H5 s5 npf ef => ?_
  refine wcall (DEn.start (d2 + 1) ks) ((SeqKeep.of s5).dp st) sok (by omega) fun pt H6 s6 npt et => ?_
  have ef6 := s6 _ _ ef
  have kl : ∀ z : Addr, PySem.W.kitOne K (.type "list") (.type "list") = some true := fun _ => kit_ty (by decide +kernel)
  have shw1 := shw_list (en_b8 sok) (by omega)
  have dpl : ∀ {H : Hp} {z : Addr} {xs : List Int}, H z = some (.lst (vints xs)) → Dp K H (.ref z) (.list (xs.map .int)) := fun h => by
    rw [dLst]
    exact ⟨_, _, rfl, .of h, DpAll.ints _⟩
  refine ⟨_, _, .type "list", .type "list", true, rfl, .ty "list", .base (.lst et), kl pt, true, rfl, ?_⟩
  rw [if_neg (by decide)]
  refine ⟨pt, pf, _, rfl, rfl, dpl et, dpl ef6, shw1.1, shw1.2.1, shw1.2.2.1, shw1.2.2.2, ?_⟩
  have B6 := (B4.keep s5).keep s6
  have st6 := (SeqKeep.of (s5.trans s6)).dp st
  have pfb : pf ≠ b := fun c => B4.b0 (by rw [← c]; exact npf)
  refine ⟨_, rfl, by decide, by decide, ?_⟩
  refine forN (fun i σ H7 => ∃ y4 y5 y6 y7 y8 y9, σ = [some (.ref sl), some (.ref b), some (.ref ps), some (.ref pf), y4, y5, y6, y7, y8, y9] ∧ Bb b p H7 ∧ H7 pf = some (.lst (vints (DEn.start (d2 + 1) ks).e)) ∧ Dp K H7 (.ref ps) (DEn.start (d2 + 1) ks).d) ⟨_, _, _, _, _, _, rfl, B6, ef6, st6⟩ ?_ ?_
  · rintro i σ H7 hi ⟨y4, y5, y6, y7, y8, y9, rfl, B7, ef7, st7⟩
    walk_at "wp"
    refine gcall' B7 fun ve H8 c o8 B8 ec qc => ?_
    have clen := en_len qc.1 qc.2.1
    have ef8 := o8 pf _ pfb ef7
    have st8 := (B7.tup o8).dp (nl_en _) st7
    refine wcall c ec qc.1 (by omega) fun pd H9 s9 npd ed => ?_
    refine wcall c ((SeqKeep.of s9).dp ec) qc.1 (by omega) fun pt2 H10 s10 npt2 et2 => ?_
    have ed10 := s10 _ _ ed
    have shw2 := shw_list (en_b8 qc.1) (by omega)
    refine ⟨_, _, .type "list", .type "list", true, rfl, .ty "list", .base (.lst et2), kl pt2, true, rfl, ?_⟩
    rw [if_neg (by decide)]
    refine ⟨pt2, pd, _, rfl, rfl, dpl et2, dpl ed10, shw2.1, shw2.2.1, shw2.2.2.1, shw2.2.2.2, ?_⟩
    refine ⟨ty_lst (.of et2), appw et2 (by omega) ?_⟩
    have t11 := tup_upd (zs := vints (c.e ++ [5])) et2
    have ec11 := t11.dp (nl_en _) ((SeqKeep.of (s9.trans s10)).dp ec)
    have npd2 : pd ≠ pt2 := fun z => by
      rw [← z, ed] at npt2
      cases npt2
    refine wcall c ec11 qc.1 (by omega) fun pw H12 s12 npw ew => ?_
    have ed12 := s12 _ _ (show (upd H10 pt2 (.lst (vints (c.e ++ [5])))) pd = _ by rw [upd_ne npd2]; exact ed10)
    refine ⟨pw, pd, _, rfl, rfl, dpl ew, dpl ed12, shw2.1, shw2.2.1, shw2.2.2.1, shw2.2.2.2, ?_⟩
    have st12 := (SeqKeep.of s12).dp (t11.dp (nl_en _) ((SeqKeep.of (s9.trans s10)).dp st8))
    have ec12 := (SeqKeep.of s12).dp ec11
    have npf2 : pf ≠ pt2 := fun z => by
      rw [← z, s9 _ _ ef8] at npt2
      cases npt2
    have ef12 := s12 _ _ (show (upd H10 pt2 (.lst (vints (c.e ++ [5])))) pf = _ by rw [upd_ne npf2]; exact s10 _ _ (s9 _ _ ef8))
    have B12 : Bb b p H12 := by
      refine ((((B8.keep s9).keep s10).upd (fun z => ?_) (fun z => ?_))).keep s12
      · exact (B8.keep s9).b0 (by rw [z]; exact npt2)
      · exact (B8.keep s9).d0 (by rw [z]; exact npt2)
    have hz : ((DEn.start (d2 + 1) ks).e ++ c.e).length ≤ 180000 := by
      rw [List.length_append]
      omega
    refine catw ef12 ed12 (by omega) fun pn npn => ?_
    generalize hH13 : upd H12 pn (.lst (vints ((DEn.start (d2 + 1) ks).e ++ c.e))) = H13
    have s13 : Same H12 H13 := hH13 ▸ Same.new npn
    have en13 : H13 pn = some (.lst (vints ((DEn.start (d2 + 1) ks).e ++ c.e))) := hH13 ▸ upd_same
    refine ⟨pf, _, rfl, .inl (.of (s13 _ _ ef12)), by decide, fun p14 np14 => ?_⟩
    generalize hH14 : upd H13 p14 (.tup [V.ref ps, V.int ((vints (DEn.start (d2 + 1) ks).e).length : Nat)]) = H14
    have s14 : Same H13 H14 := hH14 ▸ Same.new np14
    refine ⟨pf, _, rfl, .inl (.of (s14 _ _ (s13 _ _ ef12))), pd, _, rfl, .inl (.of (s14 _ _ (s13 _ _ ed12))), by decide, fun p15 np15 => ?_⟩
    have r1 : Dp K H14 (.ref p14) (.tuple [(DEn.start (d2 + 1) ks).d, pN (DEn.start (d2 + 1) ks).e.length]) := by
      rw [← hH14]
      exact dp_tup np14 (.cons ((SeqKeep.of s13).dp st12) (.cons (by rw [vlen, pN, dI]) .nil))
    generalize hH15 : upd H14 p15 (.tup [ve, V.int (((vints (DEn.start (d2 + 1) ks).e).length : Int) + ((vints c.e).length : Int))]) = H15
    have s15 : Same H14 H15 := hH15 ▸ Same.new np15
    have r2 : Dp K H15 (.ref p15) (.tuple [c.d, pN ((DEn.start (d2 + 1) ks).e ++ c.e).length]) := by
      rw [← hH15]
      refine dp_tup np15 (.cons ((SeqKeep.of (s13.trans s14)).dp ec12) (.cons ?_ .nil))
      rw [vlen, vlen, pN, dI, List.length_append]
      rfl
    refine ⟨by decide, fun p16 np16 => ?_⟩
    generalize hH16 : upd H15 p16 (.lst [V.ref p14, V.ref p15]) = H16
    have s16 : Same H15 H16 := hH16 ▸ Same.new np16
    have r3 : Dp K H16 (.ref p16) (.list [.tuple [(DEn.start (d2 + 1) ks).d, pN (DEn.start (d2 + 1) ks).e.length], .tuple [c.d, pN ((DEn.start (d2 + 1) ks).e ++ c.e).length]]) := by
      rw [← hH16]
      exact .lst (.of upd_same) ((SeqKeep.of (Same.new np16)).dpAll (.cons ((SeqKeep.of s15).dp r1) (.cons r2 .nil)))
    have hfl : [DEn.start (d2 + 1) ks, c].flatMap DEn.e = (DEn.start (d2 + 1) ks).e ++ c.e := by simp
    have s1216 := s13.trans (s14.trans (s15.trans s16))
    refine ⟨_, rfl, pn, [DEn.start (d2 + 1) ks, c], rfl, by rw [hfl]; exact s16 _ _ (s15 _ _ (s14 _ _ en13)), by rw [hfl]; omega, by simp, fun x hx => ?_, fun i x hx => ?_, fun pq H17 ys s17 npq eq hA => ?_⟩
    · rcases List.mem_cons.mp hx with rfl | hx
      · exact sok
      · rw [List.mem_singleton.mp hx]
        exact qc.1
    · match i, hx with
      | 0, hx =>
        cases hx
        exact ⟨fun _ => rfl, fun _ => rfl⟩
      | 1, hx =>
        cases hx
        exact ⟨fun h => absurd h qc.2.2, fun h => by cases h⟩
      | n + 2, hx => simp at hx
    have r3' := (SeqKeep.of s17).dp r3
    have shw3 := shw_rows (n1 := (DEn.start (d2 + 1) ks).e.length) (n2 := ((DEn.start (d2 + 1) ks).e ++ c.e).length) sok True.intro qc.1 qc.2.1 (by omega) (by omega)
    have hrr : Dp K H17 (.ref pq) (.list [.tuple [(DEn.start (d2 + 1) ks).d, pN (DEn.start (d2 + 1) ks).e.length], .tuple [c.d, pN ((DEn.start (d2 + 1) ks).e ++ c.e).length]]) := by
      rw [← jrows2]
      exact .lst (.of eq) hA
    refine ⟨pq, p16, _, rfl, rfl, hrr, r3', shw3.1, shw3.2.1, shw3.2.2.1, shw3.2.2.2, ?_⟩
    have s1217 := s1216.trans s17
    refine catw (s1217 _ _ ef12) (s1217 _ _ ed12) (by omega) fun pm npm => ?_
    have en17 : H17 pn = some (.lst (vints ((DEn.start (d2 + 1) ks).e ++ c.e))) := s17 _ _ (s16 _ _ (s15 _ _ (s14 _ _ en13)))
    have s18 : Same H17 (upd H17 pm (.lst (vints ((DEn.start (d2 + 1) ks).e ++ c.e)))) := Same.new npm
    have b88 := (en_b8 sok).app (en_b8 qc.1)
    refine ⟨_, _, dpl (s18 _ _ en17), dpl upd_same, sh_list b88, sh_list b88, _, rfl, ?_⟩
    rw [eqv_list]
    refine ⟨_, _, _, _, _, _, rfl, (B12.keep s1217).keep s18, s18 _ _ (s1217 _ _ ef12), (SeqKeep.of (s1217.trans s18)).dp st12⟩
  · rintro σ H7 ⟨y4, y5, y6, y7, y8, y9, rfl, B7, ef7, st7⟩
    walk_at "wp"
    exact k _
end
end Kt
set_option Elab.async false
set_option linter.all false
set_option maxRecDepth 100000
set_option maxHeartbeats 0
namespace Kt
open PySem PySem.Spec PyProof.Rows L2 Vl
abbrev R : PySem.W.OpenRow := PySem.W.OpenLaw.row PySem.Challenge.rw_vatlink_k69_entries_exact
def adr : List Addr := List.range 640
abbrev hk : PySem.W.Hook := Fc.hook adr
def ob (s : PySem.W.SharedT) : AlF := Fc.obsG adr (HandSHeadRun.getT s)
theorem ob_eq (s : PySem.W.SharedT) : ob s = hk.obs s.abs := Facts.obsG_eq (HandSHeadRun.getT_eq s)
theorem run (w : World) : HandSHeadRun.RunEq R (PySem.W.view R.prog [109]) hk ob 6000 loose w := by
  intro os
  kernel_rfl
end Kt
set_option Elab.async false
set_option linter.all false
set_option maxRecDepth 100000
set_option maxHeartbeats 4000000
namespace Vl
open PySem PySem.Spec PyProof.Rows L2
/-! ### the end for a law that asks for no repr around itself -/
/-- what is known of the script: its object, unless the module's own -/
def scr (K : PySem.W.Frag) (a : Addr) (o : Obj) (xs : List V) : Hp := fun b => if b = a ∧ K.lookup a = none then some (.frz o (.lst xs)) else none
section
variable {K : PySem.W.Frag} {a b : Addr} {o : Obj} {xs : List V} {u : HO}
theorem scr_some (h : scr K a o xs b = some u) : b = a ∧ K.lookup a = none ∧ u = .frz o (.lst xs) := by
  unfold scr at h
  split at h
  · rename_i c
    exact ⟨c.1, c.2, (Option.some.inj h).symm⟩
  · cases h
theorem scr_only : Only (scr K a o xs) := fun b => by
  cases h : scr K a o xs b with
  | none => exact .inl rfl
  | some u =>
    obtain ⟨_, _, rfl⟩ := scr_some h
    exact .inr ⟨_, _, rfl⟩
end
theorem endG {P : Program} {w : World} {K : PySem.W.Frag} {mg mb : Str → Option Value} {k : Nat} {fa a : Addr} {x y : Str} {sp : Sp} {s₁ : Shared} {vs : List Value} {ns : List Int}
    (KX : K.In s₁.heap) (hns : s₁.heap.Ns mainGlobals mg) (hb : s₁.heap.Ns builtinsNs mb) (hbb : ∀ x : Str, x ≠ "__name__" → mb x = bootBuiltins x) (hlim : s₁.heap.NoLimit) (hg : s₁.gens = #[])
    (ha : s₁.heap.get? a = some { cls := .type "list", data := .seq vs.toArray }) (hi : IntsAre vs ns) (hl : ns.length ≤ sizeLine) (hr : Room k callerA) (hmg : mg y = some (.ref fa))
    (F : ∀ base : Heap, K.In base → base.Ns mainGlobals mg → OkG P w K mg base CX0 y k [x] sp)
    (hsp : ∀ H : Hp, SqL K H a (ns.map V.int) → sp [.ref a] H (fun v _ => v = .bl true) fun _ _ _ => False) :
    codeAny (model P w) callerA (.call (.ref fa) ⟨[.ref a], []⟩) (fun r s' => r = .ok (.ret (.bool true)) ∧ OldK s₁.heap s'.heap ∧ s'.os = s₁.os ∧ AllBare s'.gens) s₁ := by
  let H : Hp := scr K a { cls := .type "list", data := .seq vs.toArray } (ns.map V.int)
  have rv := vals_ints hi
  -- a dict's object is not the script
  have dictFree : ∀ {b : Addr} {o : Obj} {es : Array DictEntry} {ep : Nat}, s₁.heap.get? b = some o → o.data = .dict es ep → H b = none := fun {b o es ep} e d => by
    cases q : H b with
    | none => rfl
    | some u =>
      obtain ⟨rfl, _, _⟩ := scr_some q
      rw [ha] at e
      cases e
      exact absurd d (fun z => nomatch z)
  have ns2 : ∀ {b : Addr} {m : Str → Option Value}, s₁.heap.Ns b m → (hidT s₁.heap H).Ns b m := by
    rintro b m ⟨o, es, ep, e, d, r⟩
    exact ⟨o, es, ep, hidT_get e (dictFree e d), d, r⟩
  have kin : K.In (hidT s₁.heap H) := fun b o e => hidT_get (KX b o e) (by
    cases q : H b with
    | none => rfl
    | some u =>
      obtain ⟨rfl, n, _⟩ := scr_some q
      rw [n] at e
      cases e)
  have hok : HOk P w H s₁.heap := fun b u e => by
    obtain ⟨rfl, _, rfl⟩ := scr_some e
    exact ⟨ha, by rw [List.length_map]; exact hl, vs, _, rv, ha⟩
  obtain ⟨mc, l1, l2⟩ := hlim
  have e0 : Env0 P w K mg (hidT s₁.heap H) callerA [] s₁ H := by
    refine ⟨rfl, ⟨kin, ns2 hns, ⟨mb, ns2 hb, hbb⟩, ⟨mc, ns2 l1, l2⟩⟩, fun b o e => of_hidT e, Nat.le_of_eq (hidT_size _ _), trivial, fun b z => ?_, hok, .of_eq hg⟩
    exact absurd (show b ∈ ([] : List Addr) from z) (by simp)
  have sq : SqL K H a (ns.map V.int) := by
    cases c : K.lookup a with
    | none => exact .inl (.inr ⟨_, if_pos ⟨rfl, c⟩⟩)
    | some o =>
      have e := KX a o c
      rw [ha] at e
      cases e
      refine .inr ⟨_, vs.toArray, _, c, rfl, rfl, rfl, ?_, by simpa using rv⟩
      rw [List.size_toArray, hi.length]
      exact hl
  obtain ⟨f, fd, m, kp, bd, G⟩ := F _ kin (ns2 hns)
  rw [hmg] at m
  cases m
  have run := G.run callerA [] s₁ H ⟨[.ref a], []⟩ [.ref a] [.ref a] _ _ rfl hr e0 (by
    have := bd s₁ [.ref a] KX rfl
    exact this) (.cons rfl .nil) (hsp H sq)
  refine codeAny_mono run fun r s' h => ?_
  match r, h with
  | .error e, h => exact h.elim
  | .ok .next, h => exact h.elim
  | .ok .brk, h => exact h.elim
  | .ok .cont, h => exact h.elim
  | .ok (.ret u), ⟨v, H', os, bare, un, hok', r', q⟩ =>
    obtain rfl : v = .bl true := q
    obtain rfl : u = Value.bool true := r'
    refine ⟨rfl, OldK.of_keep fun b o e => ?_, os, bare⟩
    cases c : H b with
    | none =>
      exact un.keep b o e c (fun z => absurd (show b ∈ ([] : List Addr) from z) (by simp)) (by simp)
    | some u =>
      obtain ⟨rfl, _, rfl⟩ := scr_some c
      obtain ⟨e1, _⟩ := hok b _ c
      obtain ⟨e2, _⟩ := hok' b _ (un.frzs b _ _ c)
      rw [e] at e1
      cases e1
      exact e2
theorem walkG {l : PySem.W.OpenLaw} {n k : Nat} {q : Program} {loose : List Str} {XP : (Str → Option Value) → Heap → Prop} {YP : World → Heap → Prop} {d : DefRec} {x : Str}
    (hn : l.most = some n) (hn2 : n ≤ sizeLine) (hdf : d.params.defaults = []) (hr : Room k callerA)
    (F : ∀ (w : World) (mg : Str → Option Value) (fa : Addr) (h : Heap), YP w h → h.Ns mainGlobals mg → mg d.name = some (.ref fa) →
      ∃ (K : PySem.W.Frag) (sp : Sp), K.In h ∧
        (∀ (H : Hp) (a : Addr) (ns : List Int), ns.length ≤ n → SqL K H a (ns.map V.int) → sp [.ref a] H (fun v _ => v = .bl true) fun _ _ _ => False) ∧
        ∀ base : Heap, K.In base → base.Ns mainGlobals mg → OkG l.prog w K mg base CX0 d.name k [x] sp) :
    PySem.W.WalkO q loose XP YP l.row.toRowW d [] (fun f vs => PySem.call f vs) := by
  refine Att.attach_call hn hdf fun w s₀ s₁ mg mb fa o pm cd doc a vs ns G Y ho hd hcd hmg hobj hints hlen hg => ?_
  obtain ⟨K, sp, KX, hsp, hF⟩ := F w mg fa _ Y G.T.g hmg
  exact endG KX G.T.g G.T.b G.T.builtins G.T.nolimit hg hobj hints (Nat.le_trans hlen hn2) hr hmg hF fun H hS => hsp H a ns hlen hS
end Vl
set_option Elab.async false
set_option linter.all false
set_option maxRecDepth 100000
set_option maxHeartbeats 0
namespace Kt
open PySem PySem.Spec PyProof.Rows L2 Vl
/-- the law's promise -/
abbrev spLaw (K : PySem.W.Frag) : Sp := Sp1 fun a H Q _ => ∃ sl, ∃ l : List Int, a = .ref sl ∧ SqL K H sl (vints l) ∧ l.length ≤ 63 ∧ ∀ H', Q (.bl true) H'
end Kt
open PySem PySem.W PySem.Calls PyProof.Rows
theorem PySem.Challenge.cw_vatlink_k69_entries_exact_holds : PySem.Challenge.rw_vatlink_k69_entries_exact.Holds := by
  w_on; o_law
  refine HandSHeadRun.head_any (r := Kt.R) (q := view Kt.R.prog [109]) (H := Kt.hk) (ob := Kt.ob) (M := 6000) (loose := Kt.loose) (d := HandSHeadRun.topDef Kt.R.prog 109) (kwd := []) Kt.ob_eq
    (by kernel_rfl) (fun s => by kernel_rfl) Kt.run (by kernel_rfl) (by kernel_rfl) (by kernel_rfl) (by rfl) (by first | assumption | decide +kernel) (by decide +kernel) ⟨rfl, rfl, rfl, rfl, rfl, by decide +kernel⟩ ?hw ?hc
  case hw => w_witness2
  case hc =>
    refine Vl.walkG (l := PySem.Challenge.rw_vatlink_k69_entries_exact) (n := 63) (k := 12) (x := "script") rfl (by decide) (by kernel_rfl) ⟨rfl, by decide, by decide⟩ ?F
    intro w mg fa h Y G hmg0
    obtain ⟨K, KX, c⟩ := Y
    have en : (HandSHeadRun.topDef Kt.R.prog 109).name = ("law" : PySem.Str) := by kernel_rfl
    refine ⟨K, Kt.spLaw K, KX, fun H a ns hl hS => ?_, fun base kin ns => ?_⟩
    case refine_2 =>
      rw [en]
      exact Kt.ok_law (Kt.txt kin ns c)
    case refine_1 => exact ⟨_, rfl, a, ns, rfl, hS, hl, fun _ => rfl⟩
