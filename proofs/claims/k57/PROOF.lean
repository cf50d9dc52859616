import PyProof.Rows.All
import Wide.All
import OpenK.AllK
import Wide.FinOn
import HandS.ForMost
import HandS.ForExc
import HandS.TryMany
import HandS.ExcIs
import HandS.IsInst
import HandS.CallSlots
import HandS.Flow
import HandS.StrMore
import HandS.More
import HandS.SortInts
import HandS.Deep
import HandS.TupMul
import HandS.TupAny
import HandS.Wide
import HandS.Strs
import HandS.SetFor
import HandS.Zip
import HandS.RaiseMore
import HandS.Defaults
import HandS.StrSplit
import KE.GoesMore
import KE.KDictKeyed
import KE.KExcSuper
import KE.RegKSuper
import HandS.RaiseFrom
import HandS.SuiteRaise
import HandS.ExcSuper
import HandS.ExcInit
import HandS.ExcInitHot
import HandS.ExcField
import HandS.Conv
import HandS.Replace
import KE.OsSetLaws
import PyProof.Rows.SetFrom
import HandS.TupSets
import HandS.FStr
import HandS.SetKeys
import HandS.HotCalls
import HandS.SortKw
import HandS.Comp
import HandS.DictTup
import HandS.Rev
import PySem.Challenge.RW_discwright_k57_unknown_bits_solved
set_option Elab.async false
set_option linter.all false
set_option maxRecDepth 100000
set_option autoImplicit false
set_option maxHeartbeats 4000000
namespace Pf
open PySem PySem.Spec PyProof.Rows L2
def rLenS (K : PySem.W.Frag) : List V → Hp → VK → Prop := fun xs H Q => ∃ p ys, xs = [.ref p] ∧ (SqL K H p ys ∨ SqT K H p ys) ∧ Q (.int ys.length) H
/-! ### the rules with the written part K named (a comprehension's reading must not speak of its own block) -/
section
variable {X : Cx} (K : PySem.W.Frag) (eK : X.K = K := by rfl) {e a b o value : Expr} {es : List Expr} {f : Str} {pos pos' tpos apos cpos : Pos} {ta tb tv te tl to : TE} {t : TA} {tg : Expr} {op : Operator}
include eK
theorem ix_listK : IxR X (rIxL K) := by subst eK; exact ix_list
theorem ix_tupK : IxR X (rIxT K) := by subst eK; exact ix_tup
theorem ix_seqK : IxR X (rIx K) := by subst eK; exact ix_seq
theorem sl_listK : SlR X (rSlL K) := by subst eK; exact sl_list
theorem sl_tupK : SlR X (rSlT K) := by subst eK; exact sl_tup
theorem op_inK : OpR X (compareOp .In) (rIn K false) := by subst eK; exact op_in_seq
theorem op_notInK : OpR X (compareOp .NotIn) (rIn K true) := by subst eK; exact op_notIn_seq
theorem op_eqDK (hu : X.A.units + 64 < cLine) : OpR X (compareOp .Eq) (rEqD K) := by subst eK; exact op_eqD hu
theorem op_neDK (hu : X.A.units + 64 < cLine) : OpR X (compareOp .NotEq) (rNeD K) := by subst eK; exact op_neD hu
theorem op_catTK : OpR X (binaryOp .Add) (rCatT K) := by subst eK; exact op_catT
def rListOf (K : PySem.W.Frag) : List V → Hp → VK → Prop := fun xs H Q => ∃ p ys, xs = [.ref p] ∧ (SqL K H p ys ∨ SqT K H p ys) ∧ ∀ l, H l = none → Q (.ref l) (upd H l (.lst ys))
def rTupOf (K : PySem.W.Frag) : List V → Hp → VK → Prop := fun xs H Q => ∃ p ys, xs = [.ref p] ∧ ((SqL K H p ys ∧ ∀ l, H l = none → Q (.ref l) (upd H l (.tup ys))) ∨ (SqT K H p ys ∧ Q (.ref p) H))
theorem call_lenK : CallR X (.builtin "len") (rLenS K) := by subst eK; exact call_len_seq
theorem call_listK : CallR X (.type "list") (rListOf K) := by subst eK; exact call_list_of
theorem call_tupleK : CallR X (.type "tuple") (rTupOf K) := by subst eK; exact call_tuple_of
theorem cr_sumK (hc : X.calm = true) : CallR X (.builtin "sum") (rSum K) := by subst eK; exact cr_sum hc
theorem cr_maxK (hc : X.calm = true) : CallR X (.builtin "max") (rMax K) := by subst eK; exact cr_max hc
theorem cr_minK (hc : X.calm = true) : CallR X (.builtin "min") (rMin K) := by subst eK; exact cr_min hc
theorem cr_anyK (hc : X.calm = true) : CallR X (.builtin "any") (rAny K) := by subst eK; exact cr_any hc
theorem cr_allK (hc : X.calm = true) : CallR X (.builtin "all") (rAll K) := by subst eK; exact cr_all hc
theorem pi_listK (hl : PE X e tl) : PI X tg e (iList K tl) := by subst eK; exact pi_list hl
theorem pi_tupK (hl : PE X e tl) : PI X tg e (iTup K tl) := by subst eK; exact pi_tup hl
theorem pe_fldK (he : PE X e ta) (hb : attributeBase e f X.env (eval e X.env) = eval e X.env) : PE X (.Attribute e f pos) (tFld K ta f) := by subst eK; exact pe_fld he hb
def tTruth (K : PySem.W.Frag) (ta : TE) : TT := fun σ H Q => ta σ H fun x H' => ∃ k, TruV K x H' k ∧ Q k H'
theorem pt_truthK (ha : PE X a ta) (he : ∀ whole, isTrue a X.env whole = (do let v ← whole; standAt a.pos; holding [v] (truthy v))) : PT X a (tTruth K ta) := by subst eK; exact pt_truth ha he
theorem ps_fldK (ha : PE X o ta) (hv : PE X value tv) (hs : swapsWith value (some (.Attribute o f pos')) pos.line X.env = pure false) : PS X (.Assign [.Attribute o f pos'] value pos) (sFld K ta tv f) := by subst eK; exact ps_fld ha hv hs
end
theorem pe_bmK {X : Cx} (K : PySem.W.Frag) {T id : String} {name : Str} {r : V → List V → Hp → VK → Prop} {o e : Expr} {es : List Expr} {apos cpos : Pos} {to : TE} {t : TA} (pa : PlainAttrs T) (slot : Slot T name id) (hty : typeOf (.builtin id) = pure (.type "method_descriptor")) (hm : MtR X id r) (ho : PE X o to) (ha : PA X (e :: es) t) (eK : X.K = K := by rfl)
    (hbase : attributeBase o name X.env (eval o X.env) = eval o X.env := by rfl)
    (hfew : ((backTo cpos (starEach (e :: es) X.env)).all (fun x => !x.1) && (backToKw cpos (keywordEach [] X.env)).all (fun x => x.1.isSome)
      && decide ((e :: es).length + ([] : List Keyword).length + (if ([] : List Keyword).isEmpty then 0 else 1) < 30)) = true := by rfl)
    (hline : (apos.endLine == cpos.line) = true := by rfl) (hs : starEach (e :: es) X.env = (false, eval e X.env) :: starEach es X.env := by rfl) (hplain : (backTo cpos (starEach es X.env)).any (·.1) = false := by rfl) :
    PE X (.Call (.Attribute o name apos) (e :: es) [] cpos) (tBM K T r to t) := by subst eK; exact pe_bm pa slot hty hm ho ha hbase hfew hline hs hplain
theorem pe_bm0K {X : Cx} (K : PySem.W.Frag) {T id : String} {name : Str} {r : V → List V → Hp → VK → Prop} {o : Expr} {apos cpos : Pos} {to : TE} (pa : PlainAttrs T) (slot : Slot T name id) (hty : typeOf (.builtin id) = pure (.type "method_descriptor")) (hm : MtR X id r) (ho : PE X o to) (eK : X.K = K := by rfl)
    (hbase : attributeBase o name X.env (eval o X.env) = eval o X.env := by rfl) (hline : (apos.endLine == cpos.line) = true := by rfl) : PE X (.Call (.Attribute o name apos) [] [] cpos) (tBM0 K T r to) := by subst eK; exact pe_bm0 pa slot hty hm ho hbase hline
/-! ### isinstance -/
theorem kb1 : kitB "list" "tuple" = some false := by decide +kernel
theorem kb2 : kitB "list" "list" = some true := by decide +kernel
theorem kb3 : kitB "tuple" "tuple" = some true := by decide +kernel
theorem kb4 : kitB "tuple" "list" = some false := by decide +kernel
theorem kb5 : kitB "NoneType" "tuple" = some false := by decide +kernel
theorem kb6 : kitB "NoneType" "list" = some false := by decide +kernel
theorem kb7 : kitB "bool" "tuple" = some false := by decide +kernel
theorem kb8 : kitB "bool" "list" = some false := by decide +kernel
theorem kb9 : kitB "bool" "bool" = some true := by decide +kernel
theorem kb10 : kitB "bool" "int" = some true := by decide +kernel
theorem kb11 : kitB "int" "tuple" = some false := by decide +kernel
theorem kb12 : kitB "int" "list" = some false := by decide +kernel
theorem kb13 : kitB "int" "bool" = some false := by decide +kernel
theorem kb14 : kitB "int" "int" = some true := by decide +kernel
theorem kb15 : kitB "str" "tuple" = some false := by decide +kernel
theorem kb16 : kitB "str" "list" = some false := by decide +kernel
theorem kb17 : kitB "str" "bool" = some false := by decide +kernel
theorem kb18 : kitB "str" "int" = some false := by decide +kernel
theorem kb19 : kitB "str" "str" = some true := by decide +kernel
theorem tyx_list {K : PySem.W.Frag} {H : Hp} {a : Addr} {xs : List V} (h : SqL K H a xs) : TyX K H (.ref a) (.type "list") := by
  rcases h with (h | ⟨o, h⟩) | ⟨o, its, n, h, c, _⟩
  · exact .base (.lst h)
  · exact .base (.frz h)
  · exact .kList h c
theorem tyx_tup {K : PySem.W.Frag} {H : Hp} {a : Addr} {xs : List V} (h : SqT K H a xs) : TyX K H (.ref a) (.type "tuple") := by
  rcases h with (h | ⟨o, h⟩) | ⟨o, its, n, h, c, _⟩
  · exact .base (.tup h)
  · exact .fTuple h
  · exact .kTuple h c
theorem call_isiK2 {X : Cx} (K : PySem.W.Frag) (eK : X.K = K := by rfl) : CallR X (.builtin "isinstance") (rIsi K) := by subst eK; exact call_isi
theorem tyx_non {K : PySem.W.Frag} {H : Hp} : TyX K H .non (.type "NoneType") := .base .non
theorem tyx_bl {K : PySem.W.Frag} {H : Hp} (b : Bool) : TyX K H (.bl b) (.type "bool") := .base (.bl b)
theorem tyx_int {K : PySem.W.Frag} {H : Hp} (b : Int) : TyX K H (.int b) (.type "int") := .base (.int b)
theorem tyx_str {K : PySem.W.Frag} {H : Hp} (b : Str) : TyX K H (.str b) (.type "str") := .base (.str b)
/-! ### errors -/
/-- isinstance(e, c), e what the suite holds -/
theorem call_isEx {X : Cx} (K : PySem.W.Frag) (eK : X.K = K := by rfl) {a : Addr} {cls : Value} {d : Option Addr} {oe : Obj} {pn : List (Addr × Obj)} (hz : Zc cls d oe) (hf : ∃ vs, oe.data = .fields vs) :
    CallR (X.suite a ((a, oe) :: pn)) (.builtin "isinstance") (fun xs H Q => ∃ D, cls = .ref D ∧ d = none ∧ ExcC K D ∧ rIsE K D a xs H Q) := by
  subst eK
  intro pins s σ H xs us Q I r h
  obtain ⟨D, rfl, rfl, C, h⟩ := h
  exact call_isE C hz hf pins s σ H xs us Q I r h
section
variable {X : Cx} {CX : CXT} {k : Nat} {f C : Addr} {fd : FuncData} {ps : List Str} {sp : Sp} {dvs : List V} {ds : List Value} {E : L2.St → XK} {x m : Str} {p pos apos : Pos} {e o : Expr} {es : List Expr} {t : TA} {ta : TE}
theorem run_makeS {pins : List (Addr × Obj)} {σ : L2.St} {H : Hp} {s : Shared} {Q : VK} {us : List Value} {vs : List V} (M : Mk X.K C f) (F : FnOk X.prog X.w X.K X.mg X.base CX k f fd ps sp) (hr : Room (k + 1) X.A) (hb : Binds X.K fd ps ds) (hd : Vals dvs ds)
    (hx : PassesAt CX X σ (E σ)) (I : Inv X pins σ H s) (r : Vals vs us)
    (h : ∀ x dx, H x = none → H dx = none → dx ≠ x → sp (.ref x :: (vs ++ dvs)) (upd (upd H dx (.own x)) x (.ins C dx [])) (fun v H2 => v = .non ∧ Q (.ref x) H2) (E σ)) :
    wpAny (model X.prog X.w) X.A (call (.ref C) us) (EP X pins σ Q) X.xe s := by
  have hq := h (s.heap.objs.size + 1) s.heap.objs.size (I.hok.fresh (Nat.le_succ _)) (I.hok.fresh (Nat.le_refl _)) (Nat.ne_of_lt (Nat.lt_succ_self _))
  have I2 := Inv.made (C := C) I
  have r2 : Vals (V.ref (s.heap.objs.size + 1) :: (vs ++ dvs)) (Value.ref (s.heap.objs.size + 1) :: (us ++ ds)) := .cons rfl (r.append hd)
  have hl : (Value.ref (s.heap.objs.size + 1) :: us ++ ds).length = ps.length := by
    have e := r2.length
    rw [F.len _ _ _ _ hq] at e
    exact e.symm
  refine wpAny_call (make_map (f := f) I.kIn M.makes M.init (beq_iff_eq.mp M.fn) (codeAny_mono (F.run _ X.stack _ _ ⟨Value.ref (s.heap.objs.size + 1) :: us, []⟩ (Value.ref (s.heap.objs.size + 1) :: (us ++ ds)) _ _ (E σ) (hr.make C us [])
    (I2.env0.make C us []) (hb _ (Value.ref (s.heap.objs.size + 1) :: us) I2.kIn hl) r2 hq) fun r s' hq' => ?_))
  cases r with
  | error e => exact hx pins _ _ e s' I2 hq'
  | ok fl =>
    cases fl with
    | ret u =>
      obtain ⟨v, H', I3, rv, ev, q3⟩ := I2.after hq'
      subst ev
      exact ⟨rv, ⟨V.ref (s.heap.objs.size + 1), H', I3, rfl, q3⟩⟩
    | next => exact False.elim hq'
    | brk => exact False.elim hq'
    | cont => exact False.elim hq'
def tMakeS (C : Addr) (sp : Sp) (dvs : List V) (E : L2.St → XK) (t : TA) : TE := fun σ H Q => tMake C sp dvs (E σ) t σ H Q
theorem pe_makeS (M : Mk X.K C f) (F : FnOk X.prog X.w X.K X.mg X.base CX k f fd ps sp) (hr : Room (k + 1) X.A) (hg : Gl X x) (hm : X.mg x = some (.ref C)) (hb : Binds X.K fd ps ds) (hd : Vals dvs ds) (hx : ∀ σ, PassesAt CX X σ (E σ))
    (ha : PA X (e :: es) t) (hdb : (x == ("__debug__" : Str)) = false := by decide) (he : starEach (e :: es) X.env = (false, eval e X.env) :: starEach es X.env := by rfl) (hpl : (backTo pos (starEach es X.env)).any (·.1) = false := by rfl) :
    PE X (.Call (.Name x p) (e :: es) [] pos) (tMakeS C sp dvs E t) := by
  refine ⟨fun pins s σ H Q I h => ?_⟩
  refine wpAny_Call_Name_kw (ld_glob I hg hm ?_ hdb)
  refine PySem.W.callWith_K (h₀ := X.base) I.ok.mod.kin M.kp (thn (ha.run pos pins s σ H _ I h) fun us s1 ⟨vs, H1, I1, r, q⟩ => ⟨I1.kIn, ?_⟩) he hpl
  exact run_makeS M F hr hb hd (hx σ) I1 r q
theorem pe_makeS0 (M : Mk X.K C f) (F : FnOk X.prog X.w X.K X.mg X.base CX k f fd ps sp) (hr : Room (k + 1) X.A) (hg : Gl X x) (hm : X.mg x = some (.ref C)) (hb : Binds X.K fd ps ds) (hd : Vals dvs ds) (hx : ∀ σ, PassesAt CX X σ (E σ))
    (hdb : (x == ("__debug__" : Str)) = false := by decide) : PE X (.Call (.Name x p) [] [] pos) (tMakeS C sp dvs E tNil) := by
  refine ⟨fun pins s σ H Q I h => ?_⟩
  refine wpAny_Call_Name_kw (ld_glob I hg hm ?_ hdb)
  exact PySem.W.callWith_K0 I.kIn M.kp (run_makeS (us := []) M F hr hb hd (hx σ) I .nil h)
theorem pe_callSD0 (F : FnOk X.prog X.w X.K X.mg X.base CX k f fd ps sp) (hr : Room k X.A) (hg : Gl X x) (hm : X.mg x = some (.ref f)) (hk : PySem.W.keepIn X.K (.ref f) = true) (hb : Binds X.K fd ps ds) (hd : Vals dvs ds) (hx : ∀ σ, PassesAt CX X σ (E σ))
    (hdb : (x == ("__debug__" : Str)) = false := by decide) : PE X (.Call (.Name x p) [] [] pos) (tCallSD sp dvs E tNil) := by
  refine ⟨fun pins s σ H Q I h => ?_⟩
  refine wpAny_Call_Name_kw (ld_glob I hg hm ?_ hdb)
  exact PySem.W.callWith_K0 I.kIn hk (run_fnSD (us := []) F hr hb hd (hx σ) I .nil h)
def tMethS (C : Addr) (m : Str) (sp : Sp) (dvs : List V) (E : L2.St → XK) (ta : TE) (t : TA) : TE := fun σ H Q => tMeth C m sp dvs (E σ) ta t σ H Q
theorem pe_methS {pl : Sem Bool} (he : PE X o ta) (c : Cls X.K C) (hm : Meth X.K C m f) (F : FnOk X.prog X.w X.K X.mg X.base CX k f fd ps sp) (hr : Room k X.A) (hb : Binds X.K fd ps ds) (hd : Vals dvs ds) (hx : ∀ σ, PassesAt CX X σ (E σ)) (ha : PA X (e :: es) t)
    (hst : starEach (e :: es) X.env = (false, eval e X.env) :: starEach es X.env := by rfl) (hpl : (backTo pos (starEach es X.env)).any (·.1) = false := by rfl)
    (ht : eval (.Call (.Attribute o m apos) (e :: es) [] pos) X.env = (do
      let ov ← eval o X.env
      standAt apos.atName
      let (f, first) ← holding [ov] (getMethod ov m pl)
      callWith pos f first (backTo pos (starEach (e :: es) X.env)) (backToKw pos (keywordEach [] X.env))) := by rfl) :
    PE X (.Call (.Attribute o m apos) (e :: es) [] pos) (tMethS C m sp dvs E ta t) := by
  refine ⟨fun pins s σ H Q I h => ?_⟩
  refine PySem.W.methodCall_KW (pl := pl) (thn (he.run pins s σ H _ I h) fun u s1 ⟨x, H1, I1, rx, a, dx, fs, ex, ea, l, q⟩ => ?_) ht
  subst ex
  obtain rfl : u = Value.ref a := rx
  refine getmeth_ok I1 ea c hm l ?_
  refine PySem.W.callWith_K (first := [.ref a]) (h₀ := X.base) I.ok.mod.kin hm.kp (thn (ha.run pos pins s1 σ H1 _ I1 q) fun us s2 ⟨vs, H2, I2, r, q2⟩ => ⟨I2.kIn, ?_⟩) hst hpl
  exact run_fnSD (us := .ref a :: us) (vs := .ref a :: vs) F hr hb hd (hx σ) I2 (.cons rfl r) q2
theorem pe_methS0 {pl : Sem Bool} (he : PE X o ta) (c : Cls X.K C) (hm : Meth X.K C m f) (F : FnOk X.prog X.w X.K X.mg X.base CX k f fd ps sp) (hr : Room k X.A) (hb : Binds X.K fd ps ds) (hd : Vals dvs ds) (hx : ∀ σ, PassesAt CX X σ (E σ))
    (ht : eval (.Call (.Attribute o m apos) [] [] pos) X.env = (do
      let ov ← eval o X.env
      standAt apos.atName
      let (f, first) ← holding [ov] (getMethod ov m pl)
      callWith pos f first (backTo pos (starEach [] X.env)) (backToKw pos (keywordEach [] X.env))) := by rfl) :
    PE X (.Call (.Attribute o m apos) [] [] pos) (tMethS C m sp dvs E ta tNil) := by
  refine ⟨fun pins s σ H Q I h => ?_⟩
  refine PySem.W.methodCall_KW (pl := pl) (thn (he.run pins s σ H _ I h) fun u s1 ⟨x, H1, I1, rx, a, dx, fs, ex, ea, l, q⟩ => ?_) ht
  subst ex
  obtain rfl : u = Value.ref a := rx
  refine getmeth_ok I1 ea c hm l ?_
  exact PySem.W.callWith_K0 (first := [.ref a]) I1.kIn hm.kp (run_fnSD (us := [.ref a]) (vs := [.ref a]) F hr hb hd (hx σ) I1 (.cons rfl .nil) q)
end
theorem line_of {n : Nat} (h : n ≤ 16777216) : n ≤ sizeLine := by rw [sizeLine_eq]; exact h
theorem line_lt {n : Nat} (h : n < 16777216) : n < sizeLine := by rw [sizeLine_eq]; exact h
/-! ### data, without addresses (rol: a list that is only read, the script's or one of the top) -/
inductive Dt where
  | non | bl (b : Bool) | int (i : Int) | str (s : Str) | ty (n : String)
  | lst (l : List Dt) | rol (l : List Dt) | tup (l : List Dt) | dic (l : List (Dt × Dt)) | rdc (l : List (Dt × Dt)) | dit (l : List (Dt × Dt)) | rdt (l : List (Dt × Dt)) | obj (c : Str) (fs : List (Str × Dt))
instance : Inhabited Dt := ⟨.non⟩
abbrev Env := List (Option Dt)
/-- an error: its class, its own attributes -/
structure Ex where
  c : Str
  fs : List (Str × Dt)
inductive Er (α : Type) where
  | ok (a : α) (ρ : Env) | ex (e : Ex) (ρ : Env) | stuck
inductive Sr where
  | nx (ρ : Env) | rt (d : Dt) (ρ : Env) | bk (ρ : Env) | ct (ρ : Env) | ex (e : Ex) (ρ : Env) | stuck
/-- a def's end: its value (or error), the owned arguments behind it -/
inductive Fr where
  | ok (d : Dt) (outs : List Dt) | ex (e : Ex) (outs : List Dt) | stuck
abbrev EM (α : Type) := Env → Er α
abbrev SM := Env → Sr
def Er.bind {α β : Type} : Er α → (α → Env → Er β) → Er β
  | .ok a ρ, f => f a ρ
  | .ex e ρ, _ => .ex e ρ
  | .stuck, _ => .stuck
def Sr.then : Sr → (Env → Sr) → Sr
  | .nx ρ, f => f ρ
  | r, _ => r
def Er.go {α : Type} : Er α → (α → Env → Sr) → Sr
  | .ok a ρ, f => f a ρ
  | .ex e ρ, _ => .ex e ρ
  | .stuck, _ => .stuck
/-- how a thing is held: fz may be shared and never changes; the others are held by one name alone -/
inductive Sh where
  | fz | ls (s : Sh) | dc (s : Sh) | dt (s : Sh) | ob | of (k : Str) (s r : Sh)
deriving DecidableEq
instance : Inhabited Sh := ⟨.fz⟩
/-- an object, with the shapes of some fields -/
def Sh.isOb : Sh → Bool
  | .ob => true
  | .of _ _ r => r.isOb
  | _ => false
def Sh.fld : Sh → Str → Sh
  | .of k s r, f => if k = f then s else r.fld f
  | _, _ => .fz
def kD : Key → Dt
  | .inl i => .int i
  | .inr x => .str x
mutual
/-- the key that data are, in dicts whose keys are tuples -/
def nkD : Dt → Option NestedKey
  | .int i => some (.num i)
  | .tup l => (nkDs l).map .tup
  | _ => none
def nkDs : List Dt → Option (List NestedKey)
  | [] => some []
  | d :: r => match nkD d, nkDs r with | some k, some ks => some (k :: ks) | _, _ => none
end
abbrev NEnt := NestedKey × Addr × V
/-- a dict whose keys are tuples: the keys, where their tuples stand, the values -/
def dN (p : Addr) (xs : List NEnt) : HO := .ext fun h => xs.length ≤ sizeLine ∧ (p == sysModules) = false ∧ (xs.map (·.1)).Nodup ∧ ∃ (o : Obj) (es : Array DictEntry) (ep : Nat) (ys : List (NestedKey × Addr × Value)),
  h.get? p = some o ∧ o.ExactDict ∧ o.data = .dict es ep ∧ Paired (fun (x : NEnt) (y : NestedKey × Addr × Value) => x.1 = y.1 ∧ x.2.1 = y.2.1 ∧ RelV x.2.2 y.2.2) xs ys ∧
    Paired (fun (y : NestedKey × Addr × Value) (en : DictEntry) => en.key = .ref y.2.1 ∧ en.val = y.2.2 ∧ ∀ w, en.hash = y.1.hash w) ys es.toList
/-! ### data in the heap -/
section
variable (cl : Str → Option Addr) (K : PySem.W.Frag)
inductive At (H : Hp) : V → Dt → Prop
  | non : At H .non .non
  | bl (b : Bool) : At H (.bl b) (.bl b)
  | int (i : Int) : At H (.int i) (.int i)
  | str (x : Str) : At H (.str x) (.str x)
  | ty (n : String) : At H (.ty n) (.ty n)
  | lst {a : Addr} {xs : List V} {ds : List Dt} : H a = some (.lst xs) → xs.length = ds.length → (∀ (i : Nat) v d, xs[i]? = some v → ds[i]? = some d → At H v d) → At H (.ref a) (.lst ds)
  | rol {a : Addr} {xs : List V} {ds : List Dt} : SqL K H a xs → xs.length = ds.length → (∀ (i : Nat) v d, xs[i]? = some v → ds[i]? = some d → At H v d) → At H (.ref a) (.rol ds)
  | tup {a : Addr} {xs : List V} {ds : List Dt} : SqT K H a xs → xs.length = ds.length → (∀ (i : Nat) v d, xs[i]? = some v → ds[i]? = some d → At H v d) → At H (.ref a) (.tup ds)
  | dic {a : Addr} {xs : List (Key × V)} {ds : List (Dt × Dt)} : Rd H a (.dK xs) → xs.length = ds.length → (∀ (i : Nat) k v kd d, xs[i]? = some (k, v) → ds[i]? = some (kd, d) → kd = kD k) → (∀ (i : Nat) k v kd d, xs[i]? = some (k, v) → ds[i]? = some (kd, d) → At H v d) → At H (.ref a) (.dic ds)
  | dit {a : Addr} {xs : List NEnt} {ds : List (Dt × Dt)} : Rd H a (dN a xs) → xs.length = ds.length → (∀ (i : Nat) k b v kd d, xs[i]? = some (k, b, v) → ds[i]? = some (kd, d) → nkD kd = some k) → (∀ (i : Nat) k b v kd d, xs[i]? = some (k, b, v) → ds[i]? = some (kd, d) → At H (.ref b) kd) → (∀ (i : Nat) k b v kd d, xs[i]? = some (k, b, v) → ds[i]? = some (kd, d) → At H v d) → At H (.ref a) (.dit ds)
  | rdt {a : Addr} {xs : List NEnt} {ds : List (Dt × Dt)} : (∃ o, H a = some (.frz o (dN a xs))) → xs.length = ds.length → (∀ (i : Nat) k b v kd d, xs[i]? = some (k, b, v) → ds[i]? = some (kd, d) → nkD kd = some k) → (∀ (i : Nat) k b v kd d, xs[i]? = some (k, b, v) → ds[i]? = some (kd, d) → At H (.ref b) kd) → (∀ (i : Nat) k b v kd d, xs[i]? = some (k, b, v) → ds[i]? = some (kd, d) → At H v d) → At H (.ref a) (.rdt ds)
  | rdc {a : Addr} {xs : List (Key × V)} {ds : List (Dt × Dt)} : (∃ o, H a = some (.frz o (.dK xs))) → xs.length = ds.length → (∀ (i : Nat) k v kd d, xs[i]? = some (k, v) → ds[i]? = some (kd, d) → kd = kD k) → (∀ (i : Nat) k v kd d, xs[i]? = some (k, v) → ds[i]? = some (kd, d) → At H v d) → At H (.ref a) (.rdc ds)
  | obj {a C dx : Addr} {c : Str} {xs : List (Str × V)} {ds : List (Str × Dt)} : H a = some (.ins C dx xs) → cl c = some C → (∀ k, (xs.lookup k).isSome = (ds.lookup k).isSome) → (∀ k v d, xs.lookup k = some v → ds.lookup k = some d → At H v d) → At H (.ref a) (.obj c ds)
/-- M: what may be shared (the heap without what is held), H: the heap, A: the addresses held -/
inductive Own (M H : Hp) : Sh → V → Dt → (Addr → Prop) → Prop
  | fz {v : V} {d : Dt} {A : Addr → Prop} : At cl K M v d → (∀ a, ¬ A a) → Own M H .fz v d A
  | ls {p : Addr} {s : Sh} {xs : List V} {ds : List Dt} {A : Addr → Prop} (Ai : Nat → Addr → Prop) : H p = some (.lst xs) → xs.length = ds.length → (∀ (i : Nat) v d, xs[i]? = some v → ds[i]? = some d → Own M H s v d (Ai i)) →
      (∀ i j a, Ai i a → Ai j a → i = j) → (∀ i, ¬ Ai i p) → (∀ a, A a ↔ a = p ∨ ∃ i, Ai i a) → (∀ i a, Ai i a → i < xs.length) → Own M H (.ls s) (.ref p) (.lst ds) A
  | dc {p : Addr} {s : Sh} {xs : List (Key × V)} {ds : List (Dt × Dt)} {A : Addr → Prop} (Ai : Nat → Addr → Prop) : H p = some (.dK xs) → xs.length = ds.length → (∀ (i : Nat) k v kd d, xs[i]? = some (k, v) → ds[i]? = some (kd, d) → kd = kD k) → (∀ (i : Nat) k v kd d, xs[i]? = some (k, v) → ds[i]? = some (kd, d) → Own M H s v d (Ai i)) →
      (∀ i j a, Ai i a → Ai j a → i = j) → (∀ i, ¬ Ai i p) → (∀ a, A a ↔ a = p ∨ ∃ i, Ai i a) → (∀ i a, Ai i a → i < xs.length) → Own M H (.dc s) (.ref p) (.dic ds) A
  | dt {p : Addr} {s : Sh} {xs : List NEnt} {ds : List (Dt × Dt)} {A : Addr → Prop} (Ai : Nat → Addr → Prop) : H p = some (dN p xs) → xs.length = ds.length → (∀ (i : Nat) k b v kd d, xs[i]? = some (k, b, v) → ds[i]? = some (kd, d) → nkD kd = some k ∧ At cl K M (.ref b) kd) → (∀ (i : Nat) k b v kd d, xs[i]? = some (k, b, v) → ds[i]? = some (kd, d) → Own M H s v d (Ai i)) →
      (∀ i j a, Ai i a → Ai j a → i = j) → (∀ i, ¬ Ai i p) → (∀ a, A a ↔ a = p ∨ ∃ i, Ai i a) → (∀ i a, Ai i a → i < xs.length) → Own M H (.dt s) (.ref p) (.dit ds) A
  | ob {p C dx : Addr} {c : Str} {s : Sh} {xs : List (Str × V)} {ds : List (Str × Dt)} {A : Addr → Prop} (Ai : Str → Addr → Prop) : s.isOb = true → H p = some (.ins C dx xs) → cl c = some C → xs.length = ds.length →
      (∀ k, (xs.lookup k).isSome = (ds.lookup k).isSome) → (∀ k v d, xs.lookup k = some v → ds.lookup k = some d → Own M H (s.fld k) v d (Ai k)) →
      (∀ i j a, Ai i a → Ai j a → i = j) → (∀ i, ¬ Ai i p) → (∀ a, A a ↔ a = p ∨ ∃ i, Ai i a) → (∀ k a, Ai k a → (xs.lookup k).isSome = true) → Own M H s (.ref p) (.obj c ds) A
end
open Classical in
noncomputable def mask (O : Addr → Prop) (H : Hp) : Hp := fun a => if O a then none else H a
theorem mask_some {O : Addr → Prop} {H : Hp} {a : Addr} {o : HO} : mask O H a = some o ↔ ¬ O a ∧ H a = some o := by
  unfold mask
  by_cases h : O a
  · simp [h]
  · simp [h]
theorem mask_same {O : Addr → Prop} {H : Hp} : Same (mask O H) H := fun b o e => (mask_some.mp e).2
theorem rd_same {H H' : Hp} {a : Addr} {u : HO} (s : Same H H') (h : Rd H a u) : Rd H' a u := by
  rcases h with h | ⟨o, h⟩
  · exact .inl (s _ _ h)
  · exact .inr ⟨o, s _ _ h⟩
theorem sqt_same {K : PySem.W.Frag} {H H' : Hp} {a : Addr} {xs : List V} (s : Same H H') (h : SqT K H a xs) : SqT K H' a xs := by
  rcases h with h | h
  · exact .inl (rd_same s h)
  · exact .inr h
section
variable {cl : Str → Option Addr} {K : PySem.W.Frag} {M M' H H' : Hp} {v : V} {d : Dt} {s : Sh} {A A' B : Addr → Prop}
theorem At.mono (s : Same H H') (h : At cl K H v d) : At cl K H' v d := by
  induction h with
  | non => exact .non
  | bl b => exact .bl b
  | int i => exact .int i
  | str x => exact .str x
  | ty n => exact .ty n
  | lst h1 h2 _ ih => exact .lst (s _ _ h1) h2 ih
  | rol h1 h2 _ ih => exact .rol (s.seq h1) h2 ih
  | tup h1 h2 _ ih => exact .tup (sqt_same s h1) h2 ih
  | dic h1 h2 hk _ ih => exact .dic (rd_same s h1) h2 hk ih
  | dit h1 h2 hk _ _ ihk ih => exact .dit (rd_same s h1) h2 hk ihk ih
  | rdt h1 h2 hk _ _ ihk ih => exact .rdt (h1.imp fun o e => s _ _ e) h2 hk ihk ih
  | rdc h1 h2 hk _ ih => exact .rdc (h1.imp fun o e => s _ _ e) h2 hk ih
  | obj h1 hc hk _ ih => exact .obj (s _ _ h1) hc hk ih
theorem Own.mono (sm : Same M M') (h : Own cl K M H s v d A) : (∀ a, A a → H' a = H a) → Own cl K M' H' s v d A := by
  induction h with
  | fz h1 h2 => exact fun _ => .fz (h1.mono sm) h2
  | ls Ai h1 h2 h3 h4 h5 h6 h7 ih => exact fun e => .ls Ai ((e _ ((h6 _).mpr (.inl rfl))).trans h1) h2 (fun i v d e1 e2 => ih i v d e1 e2 fun a ha => e a ((h6 a).mpr (.inr ⟨i, ha⟩))) h4 h5 h6 h7
  | dc Ai h1 h2 hk h3 h4 h5 h6 h7 ih => exact fun e => .dc Ai ((e _ ((h6 _).mpr (.inl rfl))).trans h1) h2 hk (fun i k v kd d e1 e2 => ih i k v kd d e1 e2 fun a ha => e a ((h6 a).mpr (.inr ⟨i, ha⟩))) h4 h5 h6 h7
  | dt Ai h1 h2 hk h3 h4 h5 h6 h7 ih => exact fun e => .dt Ai ((e _ ((h6 _).mpr (.inl rfl))).trans h1) h2 (fun i k b v kd d e1 e2 => ⟨(hk i k b v kd d e1 e2).1, (hk i k b v kd d e1 e2).2.mono sm⟩) (fun i k b v kd d e1 e2 => ih i k b v kd d e1 e2 fun a ha => e a ((h6 a).mpr (.inr ⟨i, ha⟩))) h4 h5 h6 h7
  | ob Ai ho h1 hc h2 hk h3 h4 h5 h6 h7 ih => exact fun e => .ob Ai ho ((e _ ((h6 _).mpr (.inl rfl))).trans h1) hc h2 hk (fun k v d e1 e2 => ih k v d e1 e2 fun a ha => e a ((h6 a).mpr (.inr ⟨k, ha⟩))) h4 h5 h6 h7
/-- held things are there -/
theorem Own.al (h : Own cl K M H s v d A) : ∀ a, A a → H a ≠ none := by
  have some_ne : ∀ {x : Option HO} {o : HO}, x = some o → x ≠ none := fun e z => by rw [e] at z; cases z
  have at_ : ∀ {α β : Type} {xs : List α} {ds : List β} {i : Nat}, xs.length = ds.length → i < xs.length → ∃ v d, xs[i]? = some v ∧ ds[i]? = some d := fun h hi => ⟨_, _, List.getElem?_eq_getElem hi, List.getElem?_eq_getElem (h ▸ hi)⟩
  induction h with
  | fz h1 h2 => exact fun a ha => (h2 a ha).elim
  | ls Ai h1 h2 h3 h4 h5 h6 h7 ih =>
    intro a ha
    rcases (h6 a).mp ha with rfl | ⟨i, hi⟩
    · exact some_ne h1
    · obtain ⟨v, d, e1, e2⟩ := at_ h2 (h7 i a hi)
      exact ih i v d e1 e2 a hi
  | dc Ai h1 h2 hk h3 h4 h5 h6 h7 ih =>
    intro a ha
    rcases (h6 a).mp ha with rfl | ⟨i, hi⟩
    · exact some_ne h1
    · obtain ⟨v, d, e1, e2⟩ := at_ h2 (h7 i a hi)
      exact ih i _ _ _ _ e1 e2 a hi
  | dt Ai h1 h2 hk h3 h4 h5 h6 h7 ih =>
    intro a ha
    rcases (h6 a).mp ha with rfl | ⟨i, hi⟩
    · exact some_ne h1
    · obtain ⟨v, d, e1, e2⟩ := at_ h2 (h7 i a hi)
      exact ih i _ _ _ _ _ e1 e2 a hi
  | ob Ai ho h1 hc h2 hk h3 h4 h5 h6 h7 ih =>
    intro a ha
    rcases (h6 a).mp ha with rfl | ⟨k, hi⟩
    · exact some_ne h1
    · obtain ⟨v, e1⟩ := Option.isSome_iff_exists.mp (h7 k a hi)
      obtain ⟨d, e2⟩ := Option.isSome_iff_exists.mp ((hk k).symm.trans (h7 k a hi))
      exact ih k v d e1 e2 a hi
/-- what was held may be shared from now on -/
theorem Own.free (sm : Same M M') (h : Own cl K M H s v d A) : (∀ a o, A a → H a = some o → M' a = some o) → At cl K M' v d := by
  induction h with
  | fz h1 h2 => exact fun _ => h1.mono sm
  | ls Ai h1 h2 h3 h4 h5 h6 h7 ih => exact fun e => .lst (e _ _ ((h6 _).mpr (.inl rfl)) h1) h2 fun i v d e1 e2 => ih i v d e1 e2 fun a o ha ho => e a o ((h6 a).mpr (.inr ⟨i, ha⟩)) ho
  | dc Ai h1 h2 hk h3 h4 h5 h6 h7 ih => exact fun e => .dic (.inl (e _ _ ((h6 _).mpr (.inl rfl)) h1)) h2 hk fun i k v kd d e1 e2 => ih i k v kd d e1 e2 fun a o ha ho => e a o ((h6 a).mpr (.inr ⟨i, ha⟩)) ho
  | dt Ai h1 h2 hk h3 h4 h5 h6 h7 ih => exact fun e => .dit (.inl (e _ _ ((h6 _).mpr (.inl rfl)) h1)) h2 (fun i k b v kd d e1 e2 => (hk i k b v kd d e1 e2).1) (fun i k b v kd d e1 e2 => (hk i k b v kd d e1 e2).2.mono sm) fun i k b v kd d e1 e2 => ih i k b v kd d e1 e2 fun a o ha ho => e a o ((h6 a).mpr (.inr ⟨i, ha⟩)) ho
  | ob Ai ho h1 hc h2 hk h3 h4 h5 h6 h7 ih => exact fun e => .obj (e _ _ ((h6 _).mpr (.inl rfl)) h1) hc hk fun k v d e1 e2 => ih k v d e1 e2 fun a o ha ho => e a o ((h6 a).mpr (.inr ⟨k, ha⟩)) ho
end
/-! ### the rows: what the names hold -/
abbrev Ss := List (Nat × Sh)
def sh (ss : Ss) (i : Nat) : Sh := (ss.lookup i).getD .fz
/-- ss' is ss, but at i it is s -/
def okSet (ss : Ss) (i : Nat) (s : Sh) (ss' : Ss) : Bool := sh ss' i == s && ss.all (fun p => p.1 == i || sh ss' p.1 == sh ss p.1) && ss'.all (fun p => p.1 == i || sh ss' p.1 == sh ss p.1)
/-- ss' holds less -/
def leS (ss' ss : Ss) : Bool := ss'.all fun p => sh ss' p.1 == .fz || sh ss' p.1 == sh ss p.1
theorem sh_none {ss : Ss} {i : Nat} (h : ∀ p ∈ ss, p.1 ≠ i) : sh ss i = .fz := by
  unfold sh
  induction ss with
  | nil => rfl
  | cons p r ih =>
    obtain ⟨k, s⟩ := p
    have : ¬ i = k := fun e => h (k, s) (by simp) e.symm
    rw [List.lookup_cons, show (i == k) = false by simpa using this]
    exact ih fun q hq => h q (by simp [hq])
theorem leS_at {ss' ss : Ss} (h : leS ss' ss = true) (i : Nat) : sh ss' i = .fz ∨ sh ss' i = sh ss i := by
  by_cases e : ∃ p ∈ ss', p.1 = i
  · obtain ⟨p, hp, rfl⟩ := e
    have := List.all_eq_true.mp h p hp
    simp only [Bool.or_eq_true, beq_iff_eq] at this
    exact this
  · exact .inl (sh_none fun p hp z => e ⟨p, hp, z⟩)
theorem okSet_at {ss ss' : Ss} {i : Nat} {s : Sh} (h : okSet ss i s ss' = true) : sh ss' i = s ∧ ∀ j, j ≠ i → sh ss' j = sh ss j := by
  unfold okSet at h
  simp only [Bool.and_eq_true, beq_iff_eq, List.all_eq_true, Bool.or_eq_true] at h
  obtain ⟨⟨h1, h2⟩, h3⟩ := h
  refine ⟨h1, fun j hj => ?_⟩
  by_cases e : ∃ p ∈ ss, p.1 = j
  · obtain ⟨p, hp, rfl⟩ := e
    exact (h2 p hp).resolve_left hj
  · by_cases e' : ∃ p ∈ ss', p.1 = j
    · obtain ⟨p, hp, rfl⟩ := e'
      exact (h3 p hp).resolve_left hj
    · rw [sh_none fun p hp z => e ⟨p, hp, z⟩, sh_none fun p hp z => e' ⟨p, hp, z⟩]
def MO (B : Addr → Prop) (Ai : Nat → Addr → Prop) : Addr → Prop := fun a => B a ∨ ∃ i, Ai i a
noncomputable abbrev MH (B : Addr → Prop) (Ai : Nat → Addr → Prop) (H : Hp) : Hp := mask (MO B Ai) H
/-- what is known besides, as long as what may be shared stands -/
structure FP where
  p : Hp → Prop
  mono : ∀ M M', Same M M' → p M → p M'
  pins : List (Nat × V)
def FP.top : FP := ⟨fun _ => True, fun _ _ _ _ => True.intro, []⟩
/-- B: held by others; Ai i: held by the name i (the place behind the last one: by the value at hand) -/
structure Rep (cl : Str → Option Addr) (K : PySem.W.Frag) (F : FP) (B : Addr → Prop) (Ai : Nat → Addr → Prop) (ss : Ss) (ρ : Env) (σ : L2.St) (H : Hp) : Prop where
  len : ρ.length = σ.length
  row : ∀ i d, ρ[i]? = some (some d) → ∃ v, σ[i]? = some (some v) ∧ Own cl K (MH B Ai H) H (sh ss i) v d (Ai i)
  dj : ∀ i j a, Ai i a → Ai j a → i = j
  nb : ∀ i a, Ai i a → ¬ B a
  al : ∀ i a, Ai i a → H a ≠ none
  hb : ∀ a, B a → H a ≠ none
  fx : F.p (MH B Ai H)
  pin : ∀ q ∈ F.pins, σ[q.1]? = some (some q.2)
structure Ext (q : Bool) (B : Addr → Prop) (Ai : Nat → Addr → Prop) (H : Hp) (Ai' : Nat → Addr → Prop) (H' : Hp) : Prop where
  old : ∀ a, B a → H' a = H a
  fro : ∀ a o, ¬ B a → (∀ i, ¬ Ai i a) → H a = some o → (∀ i, ¬ Ai' i a) ∧ H' a = some o
  qt : q = true → Same H H'
section
variable {cl : Str → Option Addr} {K : PySem.W.Frag} {F : FP} {q : Bool} {B : Addr → Prop} {Ai Ai' Ai1 Ai2 : Nat → Addr → Prop} {ss ss' : Ss} {ρ ρ' : Env} {σ σ' : L2.St} {H H' H1 H2 : Hp} {v : V} {d : Dt} {s : Sh} {A : Addr → Prop}
theorem Ext.refl : Ext q B Ai H Ai H := ⟨fun _ _ => rfl, fun _ _ _ h e => ⟨h, e⟩, fun _ => Same.refl H⟩
theorem Ext.to {q' : Bool} (a : Ext true B Ai H Ai1 H1) : Ext q' B Ai H Ai1 H1 := ⟨a.old, a.fro, fun _ => a.qt rfl⟩
theorem Ext.off (a : Ext q B Ai H Ai1 H1) : Ext false B Ai H Ai1 H1 := ⟨a.old, a.fro, fun z => nomatch z⟩
theorem Ext.trans (a : Ext q B Ai H Ai1 H1) (b : Ext q B Ai1 H1 Ai2 H2) : Ext q B Ai H Ai2 H2 :=
  ⟨fun x hx => (b.old x hx).trans (a.old x hx), fun x o nb na e => let ⟨n1, e1⟩ := a.fro x o nb na e; b.fro x o nb n1 e1, fun h => (a.qt h).trans (b.qt h)⟩
theorem Ext.same (a : Ext q B Ai H Ai1 H1) : Same (MH B Ai H) (MH B Ai1 H1) := fun x o e => by
  obtain ⟨n, e⟩ := mask_some.mp e
  obtain ⟨h1, h2⟩ := a.fro x o (fun z => n (.inl z)) (fun i z => n (.inr ⟨i, z⟩)) e
  exact mask_some.mpr ⟨fun z => z.elim (fun z => n (.inl z)) fun ⟨i, z⟩ => h1 i z, h2⟩
theorem Rep.no (R : Rep cl K F B Ai ss ρ σ H) {p : Addr} (n : H p = none) : ¬ MO B Ai p := fun z => z.elim (fun z => R.hb p z n) fun ⟨i, z⟩ => R.al i p z n
/-- a slot -/
theorem Rep.get (R : Rep cl K F B Ai ss ρ σ H) {i : Nat} (e : ρ[i]? = some (some d)) : ∃ v, σ[i]? = some (some v) ∧ Own cl K (MH B Ai H) H (sh ss i) v d (Ai i) := R.row i d e
theorem Own.fzAt {M : Hp} (h : Own cl K M H .fz v d A) : At cl K M v d ∧ ∀ a, ¬ A a := by
  cases h with
  | fz h1 h2 => exact ⟨h1, h2⟩
  | ob _ ho => cases ho
theorem Rep.getFz (R : Rep cl K F B Ai ss ρ σ H) {i : Nat} (e : ρ[i]? = some (some d)) (hf : sh ss i = .fz) : ∃ v, σ[i]? = some (some v) ∧ At cl K (MH B Ai H) v d := by
  obtain ⟨v, h1, h2⟩ := R.get e
  rw [hf] at h2
  exact ⟨v, h1, h2.fzAt.1⟩
/-- a new object -/
theorem Rep.new (R : Rep cl K F B Ai ss ρ σ H) {p : Addr} {o : HO} (n : H p = none) : Rep cl K F B Ai ss ρ σ (upd H p o) ∧ Ext q B Ai H Ai (upd H p o) := by
  have e : ∀ a, H a ≠ none → upd H p o a = H a := fun a h => upd_ne fun z => by subst z; exact h n
  have x : Ext q B Ai H Ai (upd H p o) := ⟨fun a h => e a (R.hb a h), fun a u nb na q => ⟨na, (e a (by rw [q]; exact fun z => nomatch z)).trans q⟩, fun _ b u h => by rw [upd_ne (ne_of_none h n)]; exact h⟩
  refine ⟨⟨R.len, fun i d q => ?_, R.dj, R.nb, fun i a h => by rw [e a (R.al i a h)]; exact R.al i a h, fun a h => by rw [e a (R.hb a h)]; exact R.hb a h, F.mono _ _ x.same R.fx, R.pin⟩, x⟩
  obtain ⟨v, h1, h2⟩ := R.row i d q
  exact ⟨v, h1, h2.mono x.same fun a ha => e a (R.al i a ha)⟩
/-- what the row k holds is changed (behind the last one: laid down, or taken) -/
def setA (Ai : Nat → Addr → Prop) (k : Nat) (A : Addr → Prop) : Nat → Addr → Prop := fun i => if i = k then A else Ai i
theorem setA_same {k : Nat} : setA Ai k A k = A := if_pos rfl
theorem setA_ne {k i : Nat} (h : i ≠ k) : setA Ai k A i = Ai i := if_neg h
theorem setA_imp {k i : Nat} {a : Addr} (h : setA Ai k A i a) : (i = k ∧ A a) ∨ (i ≠ k ∧ Ai i a) := by
  by_cases e : i = k
  · subst e; rw [setA_same] at h; exact .inl ⟨rfl, h⟩
  · rw [setA_ne e] at h; exact .inr ⟨e, h⟩
/-- the step: row k holds A from now on (things that it held, or new ones); all else stands -/
theorem Rep.step (R : Rep cl K F B Ai ss ρ σ H) {k : Nat} (hA : ∀ a, A a → Ai k a ∨ H a = none) (hA' : ∀ a, A a → H' a ≠ none) (keep : ∀ a o, ¬ Ai k a → H a = some o → H' a = some o) (hl : ρ'.length = σ'.length) (hpn : ∀ q ∈ F.pins, σ'[q.1]? = σ[q.1]?) (hqt : q = true → Same H H')
    (row : ∀ i d, ρ'[i]? = some (some d) → i ≠ k → ∃ v, σ'[i]? = some (some v) ∧ ((ρ[i]? = some (some d) ∧ σ[i]? = some (some v) ∧ sh ss' i = sh ss i) ∨ (sh ss' i = .fz ∧ At cl K (MH B (setA Ai k A) H') v d ∧ ∀ a, ¬ Ai i a)))
    (rowk : ∀ d, ρ'[k]? = some (some d) → ∃ v, σ'[k]? = some (some v) ∧ Own cl K (MH B (setA Ai k A) H') H' (sh ss' k) v d A) :
    Rep cl K F B (setA Ai k A) ss' ρ' σ' H' ∧ Ext q B Ai H (setA Ai k A) H' := by
  have nk : ∀ a, B a → ¬ Ai k a := fun a hb z => R.nb k a z hb
  have ek : ∀ a, ¬ Ai k a → H a ≠ none → H' a = H a := fun a n h => by
    cases e : H a with
    | none => exact absurd e h
    | some o => exact keep a o n e
  have x : Ext q B Ai H (setA Ai k A) H' := ⟨fun a h => ek a (nk a h) (R.hb a h), fun a o nb na q => ⟨fun i z => (setA_imp z).elim (fun z => (hA a z.2).elim (na k) (fun z => by rw [q] at z; cases z)) fun z => na i z.2, keep a o (na k) q⟩, hqt⟩
  have ne : ∀ (i : Nat) (a : Addr), i ≠ k → Ai i a → ¬ A a := fun i a hi ha z => (hA a z).elim (fun z => hi (R.dj i k a ha z)) (R.al i a ha)
  refine ⟨⟨hl, fun i d e => ?_, fun i j a hi hj => ?_, fun i a hi => ?_, fun i a hi => ?_, fun a h => by rw [ek a (nk a h) (R.hb a h)]; exact R.hb a h, F.mono _ _ x.same R.fx, fun q hq => (hpn q hq).trans (R.pin q hq)⟩, x⟩
  · by_cases hik : i = k
    · subst hik
      rw [setA_same]
      exact rowk d e
    · rw [setA_ne hik]
      obtain ⟨v, h1, h2⟩ := row i d e hik
      refine ⟨v, h1, ?_⟩
      rcases h2 with ⟨h3, h4, h5⟩ | ⟨h3, h4, h5⟩
      · obtain ⟨v', q1, q2⟩ := R.row i d h3
        rw [h4] at q1
        cases q1
        rw [h5]
        exact q2.mono x.same fun a ha => ek a (fun z => hik (R.dj i k a ha z)) (R.al i a ha)
      · rw [h3]; exact .fz h4 h5
  · rcases setA_imp hi with ⟨rfl, h1⟩ | ⟨h0, h1⟩
    · rcases setA_imp hj with ⟨rfl, h2⟩ | ⟨h3, h2⟩
      · rfl
      · exact absurd h1 (ne j a h3 h2)
    · rcases setA_imp hj with ⟨rfl, h2⟩ | ⟨h3, h2⟩
      · exact absurd h2 (ne i a h0 h1)
      · exact R.dj i j a h1 h2
  · rcases setA_imp hi with ⟨rfl, h1⟩ | ⟨h0, h1⟩
    · exact fun hb => (hA a h1).elim (nk a hb) (R.hb a hb)
    · exact R.nb i a h1
  · rcases setA_imp hi with ⟨rfl, h1⟩ | ⟨h0, h1⟩
    · exact hA' a h1
    · rw [ek a (fun z => h0 (R.dj i k a h1 z)) (R.al i a h1)]; exact R.al i a h1
end
/-- an object made of what may be shared -/
inductive NewO (cl : Str → Option Addr) (K : PySem.W.Frag) (M : Hp) : Addr → HO → Dt → Prop
  | lst {p : Addr} {xs : List V} {ds : List Dt} : xs.length = ds.length → (∀ (i : Nat) v d, xs[i]? = some v → ds[i]? = some d → At cl K M v d) → NewO cl K M p (.lst xs) (.lst ds)
  | tup {p : Addr} {xs : List V} {ds : List Dt} : xs.length = ds.length → (∀ (i : Nat) v d, xs[i]? = some v → ds[i]? = some d → At cl K M v d) → NewO cl K M p (.tup xs) (.tup ds)
  | dic {p : Addr} {xs : List (Key × V)} {ds : List (Dt × Dt)} : xs.length = ds.length → (∀ (i : Nat) k v kd d, xs[i]? = some (k, v) → ds[i]? = some (kd, d) → kd = kD k) → (∀ (i : Nat) k v kd d, xs[i]? = some (k, v) → ds[i]? = some (kd, d) → At cl K M v d) → NewO cl K M p (.dK xs) (.dic ds)
  | dit {p : Addr} {xs : List NEnt} {ds : List (Dt × Dt)} : xs.length = ds.length → (∀ (i : Nat) k b v kd d, xs[i]? = some (k, b, v) → ds[i]? = some (kd, d) → nkD kd = some k ∧ At cl K M (.ref b) kd) → (∀ (i : Nat) k b v kd d, xs[i]? = some (k, b, v) → ds[i]? = some (kd, d) → At cl K M v d) → NewO cl K M p (dN p xs) (.dit ds)
inductive Res (cl : Str → Option Addr) (K : PySem.W.Frag) (M H : Hp) : V → Hp → Dt → Prop
  | old {v : V} {d : Dt} : At cl K M v d → Res cl K M H v H d
  | new {p : Addr} {o : HO} {d : Dt} : H p = none → NewO cl K M p o d → Res cl K M H (.ref p) (upd H p o) d
/-- an own object, of frozen things -/
def hoSh : HO → Sh
  | .lst _ => .ls .fz
  | .dK _ => .dc .fz
  | .ext _ => .dt .fz
  | _ => .fz
section
variable {cl : Str → Option Addr} {K : PySem.W.Frag} {F : FP} {q : Bool} {B : Addr → Prop} {Ai Ai' Ai1 Ai2 : Nat → Addr → Prop} {ss ss' : Ss} {ρ ρ' : Env} {σ σ' : L2.St} {M H H' H1 H2 : Hp} {v : V} {d : Dt} {s : Sh} {A : Addr → Prop} {o : HO} {p : Addr}
theorem NewO.mono (sm : Same M H) (h : NewO cl K M p o d) : NewO cl K H p o d := by
  cases h with
  | lst h1 h2 => exact .lst h1 fun i v d a b => (h2 i v d a b).mono sm
  | tup h1 h2 => exact .tup h1 fun i v d a b => (h2 i v d a b).mono sm
  | dic h1 hk h2 => exact .dic h1 hk fun i k v kd d a b => (h2 i k v kd d a b).mono sm
  | dit h1 hk h2 => exact .dit h1 (fun i k b v kd d x y => ⟨(hk i k b v kd d x y).1, (hk i k b v kd d x y).2.mono sm⟩) fun i k b v kd d x y => (h2 i k b v kd d x y).mono sm
theorem NewO.at (h : NewO cl K M p o d) (e : M p = some o) : At cl K M (.ref p) d := by
  cases h with
  | lst h1 h2 => exact .lst e h1 h2
  | tup h1 h2 => exact .tup (SqT.of e) h1 h2
  | dic h1 hk h2 => exact .dic (.inl e) h1 hk h2
  | dit h1 hk h2 => exact .dit (.inl e) h1 (fun i k b v kd d x y => (hk i k b v kd d x y).1) (fun i k b v kd d x y => (hk i k b v kd d x y).2) h2
theorem NewO.own (h : NewO cl K M p o d) (hs : hoSh o ≠ .fz) (e : H p = some o) : Own cl K M H (hoSh o) (.ref p) d (fun a => a = p) := by
  cases h with
  | lst h1 h2 => exact .ls (fun _ _ => False) e h1 (fun i v d a b => .fz (h2 i v d a b) fun _ z => z) (fun _ _ _ z => z.elim) (fun _ z => z) (fun a => ⟨.inl, fun z => z.elim id fun ⟨_, z⟩ => z.elim⟩) fun _ _ z => z.elim
  | tup h1 h2 => exact absurd rfl hs
  | dic h1 hk h2 => exact .dc (fun _ _ => False) e h1 hk (fun i k v kd d a b => .fz (h2 i k v kd d a b) fun _ z => z) (fun _ _ _ z => z.elim) (fun _ z => z) (fun a => ⟨.inl, fun z => z.elim id fun ⟨_, z⟩ => z.elim⟩) fun _ _ z => z.elim
  | dit h1 hk h2 => exact .dt (fun _ _ => False) e h1 hk (fun i k b v kd d x y => .fz (h2 i k b v kd d x y) fun _ z => z) (fun _ _ _ z => z.elim) (fun _ z => z) (fun a => ⟨.inl, fun z => z.elim id fun ⟨_, z⟩ => z.elim⟩) fun _ _ z => z.elim
/-- the value at hand: a thing that may be shared -/
theorem Rep.temp (R : Rep cl K F B Ai ss ρ σ H) : Rep cl K F B (setA Ai σ.length fun _ => False) ss ρ σ H ∧ Ext q B Ai H (setA Ai σ.length fun _ => False) H := by
  refine R.step (fun _ z => z.elim) (fun _ z => z.elim) (fun _ _ _ e => e) R.len (fun _ _ => rfl) (fun _ => Same.refl _) (fun i d e hi => ?_) (fun d e => ?_)
  · obtain ⟨v, h1, _⟩ := R.row i d e
    exact ⟨v, h1, .inl ⟨e, h1, rfl⟩⟩
  · rw [← R.len, List.getElem?_eq_none (Nat.le_refl _)] at e; cases e
theorem Rep.res (R : Rep cl K F B Ai ss ρ σ H) (r : Res cl K (MH B Ai H) H v H' d) : ∃ Ai', Ext q B Ai H Ai' H' ∧ Rep cl K F B Ai' ss ρ σ H' ∧ Own cl K (MH B Ai' H') H' .fz v d (Ai' σ.length) := by
  cases r with
  | old h =>
    obtain ⟨R1, x1⟩ := R.temp
    exact ⟨_, x1, R1, .fz (h.mono x1.same) fun a => by rw [setA_same]; exact fun z => z⟩
  | @new p o _ n h =>
    obtain ⟨R1, x1⟩ := R.new (o := o) n
    obtain ⟨R2, x2⟩ := R1.temp
    refine ⟨_, x1.trans x2, R2, .fz ((h.mono (x1.trans x2).same).at (mask_some.mpr ⟨fun z => ?_, upd_same⟩)) fun a => by rw [setA_same]; exact fun z => z⟩
    refine R.no n (z.imp id fun ⟨i, z⟩ => ?_)
    rcases setA_imp z with ⟨_, z⟩ | ⟨_, z⟩
    · exact z.elim
    · exact ⟨i, z⟩
theorem Rep.own (R : Rep cl K F B Ai ss ρ σ H) (n : H p = none) (h : NewO cl K (MH B Ai H) p o d) (hs : hoSh o ≠ .fz) : ∃ Ai', Ext q B Ai H Ai' (upd H p o) ∧ Rep cl K F B Ai' ss ρ σ (upd H p o) ∧ Own cl K (MH B Ai' (upd H p o)) (upd H p o) (hoSh o) (.ref p) d (Ai' σ.length) := by
  obtain ⟨R2, x2⟩ := R.step (k := σ.length) (A := fun a => a = p) (H' := upd H p o) (ρ' := ρ) (σ' := σ) (ss' := ss) (fun a z => .inr (by rw [z]; exact n)) (fun a z => by rw [z, upd_same]; exact fun z => nomatch z)
    (fun a u _ e => by rw [upd_ne (ne_of_none e n)]; exact e) R.len (fun _ _ => rfl) (fun _ b u h => by rw [upd_ne (ne_of_none h n)]; exact h) (fun i d e hi => by obtain ⟨v, h1, _⟩ := R.row i d e; exact ⟨v, h1, .inl ⟨e, h1, rfl⟩⟩)
    (fun d e => by rw [← R.len, List.getElem?_eq_none (Nat.le_refl _)] at e; cases e)
  refine ⟨_, x2, R2, ?_⟩
  rw [setA_same]
  exact (h.mono x2.same).own hs upd_same
/-- a name is stored: what is at hand goes to the row i -/
theorem Rep.put1 (R : Rep cl K F B Ai ss ρ σ H) {i : Nat} (h : Own cl K (MH B Ai H) H s v d (Ai σ.length)) (hs : okSet ss i s ss' = true) (hpn : ∀ q ∈ F.pins, q.1 ≠ i) (hi : i < σ.length) :
    ∃ Ai', Ext q B Ai H Ai' H ∧ Rep cl K F B Ai' ss' (ρ.set i (some d)) (σ.set i (some v)) H := by
  obtain ⟨s1, s2⟩ := okSet_at hs
  obtain ⟨Aj, eAj⟩ : ∃ Aj : Nat → Addr → Prop, Aj = fun j => if j = i then Ai σ.length else if j = σ.length then fun _ => False else Ai j := ⟨_, rfl⟩
  have ai : Aj i = Ai σ.length := by rw [eAj]; exact if_pos rfl
  have an : ∀ a, ¬ Aj σ.length a := fun a z => by
    rw [eAj] at z
    simp [Nat.ne_of_gt hi] at z
  have aj : ∀ j, j ≠ i → j ≠ σ.length → Aj j = Ai j := fun j h1 h2 => by rw [eAj]; simp only; rw [if_neg h1, if_neg h2]
  have sub : ∀ j a, Aj j a → (j = i ∧ Ai σ.length a) ∨ (j ≠ i ∧ j ≠ σ.length ∧ Ai j a) := fun j a z => by
    by_cases h1 : j = i
    · subst h1; rw [ai] at z; exact .inl ⟨rfl, z⟩
    · by_cases h2 : j = σ.length
      · subst h2; exact (an a z).elim
      · rw [aj j h1 h2] at z; exact .inr ⟨h1, h2, z⟩
  have x : Ext q B Ai H Aj H := ⟨fun _ _ => rfl, fun a o _ na e => ⟨fun j z => (sub j a z).elim (fun z => na _ z.2) fun z => na j z.2.2, e⟩, fun _ => Same.refl _⟩
  have hl := R.len
  refine ⟨Aj, x, ⟨by simpa using R.len, fun j d' e => ?_, fun j k a h1 h2 => ?_, fun j a h1 => ?_, fun j a h1 => ?_, R.hb, F.mono _ _ x.same R.fx, fun q hq => by rw [List.getElem?_set_ne (fun z => hpn q hq z.symm)]; exact R.pin q hq⟩⟩
  · by_cases hj : j = i
    · subst hj
      rw [List.getElem?_set_self (by omega)] at e
      cases e
      exact ⟨v, by rw [List.getElem?_set_self hi], by rw [s1, ai]; exact h.mono x.same fun _ _ => rfl⟩
    · rw [List.getElem?_set_ne (Ne.symm hj)] at e
      obtain ⟨v', h1, h2⟩ := R.row j d' e
      have hjn : j ≠ σ.length := fun z => by rw [z, List.getElem?_eq_none (Nat.le_refl _)] at h1; cases h1
      exact ⟨v', by rw [List.getElem?_set_ne (Ne.symm hj)]; exact h1, by rw [s2 j hj, aj j hj hjn]; exact h2.mono x.same fun _ _ => rfl⟩
  · rcases sub j a h1 with ⟨e1, q1⟩ | ⟨n1, m1, q1⟩
    · rcases sub k a h2 with ⟨e2, q2⟩ | ⟨n2, m2, q2⟩
      · rw [e1, e2]
      · exact absurd (R.dj _ _ a q2 q1) m2
    · rcases sub k a h2 with ⟨e2, q2⟩ | ⟨n2, m2, q2⟩
      · exact absurd (R.dj _ _ a q1 q2) m1
      · exact R.dj _ _ a q1 q2
  · exact (sub j a h1).elim (fun z => R.nb _ a z.2) fun z => R.nb _ a z.2.2
  · exact (sub j a h1).elim (fun z => R.al _ a z.2) fun z => R.al _ a z.2.2
theorem Rep.put (R : Rep cl K F B Ai ss ρ σ H) {i : Nat} (h : Own cl K (MH B Ai H) H s v d (Ai σ.length)) (hs : okSet ss i s ss' = true) (hpn : ∀ q ∈ F.pins, q.1 ≠ i) :
    ∃ Ai', Ext q B Ai H Ai' H ∧ Rep cl K F B Ai' ss' (ρ.set i (some d)) (σ.set i (some v)) H := by
  by_cases hi : i < σ.length
  · exact R.put1 h hs hpn hi
  · have hl := R.len
    rw [List.set_eq_of_length_le (by omega), List.set_eq_of_length_le (by omega)]
    obtain ⟨R1, x1⟩ := R.temp
    refine ⟨_, x1, ⟨R1.len, fun j d' e => ?_, R1.dj, R1.nb, R1.al, R1.hb, R1.fx, R1.pin⟩⟩
    obtain ⟨v', h1, h2⟩ := R1.row j d' e
    have hj : j ≠ i := fun z => by
      have := (List.getElem?_eq_some_iff.mp h1).1
      omega
    exact ⟨v', h1, by rw [(okSet_at hs).2 j hj]; exact h2⟩
/-- a row is forgotten -/
theorem Rep.drop (R : Rep cl K F B Ai ss ρ σ H) (i : Nat) : Rep cl K F B Ai ss (ρ.set i none) σ H := by
  refine ⟨by simpa using R.len, fun j d e => ?_, R.dj, R.nb, R.al, R.hb, R.fx, R.pin⟩
  by_cases hj : j = i
  · subst hj
    by_cases hl : j < ρ.length
    · rw [List.getElem?_set_self hl] at e; cases e
    · rw [List.getElem?_eq_none (by simpa using hl)] at e; cases e
  · rw [List.getElem?_set_ne (Ne.symm hj)] at e
    exact R.row j d e
/-- less is held -/
theorem Rep.less (R : Rep cl K F B Ai ss ρ σ H) (h : leS ss' ss = true) : ∃ Ai', Ext q B Ai H Ai' H ∧ Rep cl K F B Ai' ss' ρ σ H ∧ Ai' σ.length = Ai σ.length := by
  obtain ⟨Aj, eAj⟩ : ∃ Aj : Nat → Addr → Prop, Aj = fun j a => Ai j a ∧ (sh ss' j = sh ss j ∨ j = σ.length) := ⟨_, rfl⟩
  have sub : ∀ {j a}, Aj j a → Ai j a := fun z => by rw [eAj] at z; exact z.1
  have x : Ext q B Ai H Aj H := ⟨fun _ _ => rfl, fun a o _ na e => ⟨fun j z => na j (sub z), e⟩, fun _ => Same.refl _⟩
  refine ⟨Aj, x, ⟨R.len, fun j d e => ?_, fun j k a h1 h2 => R.dj j k a (sub h1) (sub h2), fun j a h1 => R.nb j a (sub h1), fun j a h1 => R.al j a (sub h1), R.hb, F.mono _ _ x.same R.fx, R.pin⟩, by rw [eAj]; funext a; simp⟩
  obtain ⟨v, h1, h2⟩ := R.row j d e
  have hj : j ≠ σ.length := fun z => by rw [z, List.getElem?_eq_none (Nat.le_refl _)] at h1; cases h1
  refine ⟨v, h1, ?_⟩
  by_cases hs : sh ss' j = sh ss j
  · rw [hs, show Aj j = Ai j by rw [eAj]; funext a; simp [hs]]
    exact h2.mono x.same fun _ _ => rfl
  · rw [(leS_at h j).resolve_right hs]
    refine .fz (h2.free x.same fun a o ha ho => mask_some.mpr ⟨fun z => ?_, ho⟩) fun a z => ?_
    · rcases z with z | ⟨k, z⟩
      · exact R.nb j a ha z
      · have e : j = k := R.dj j k a ha (sub z)
        subst e
        rw [eAj] at z
        exact z.2.elim hs hj
    · rw [eAj] at z; exact z.2.elim hs hj
end
/-! ### the words: expressions -/
def gv (ρ : Env) (i : Nat) : Option Dt := (ρ[i]?).join
inductive AE where
  | val (e : EM Dt) | own (i : Nat) | fld (cs : List Str) (i : Nat) (f : Str)
def eVar (i : Nat) : EM Dt := fun ρ => match gv ρ i with | some d => .ok d ρ | none => .stuck
def eC (d : Dt) : EM Dt := fun ρ => .ok d ρ
def fldD (d : Dt) (f : Str) : Option Dt := match d with | .obj _ fs => fs.lookup f | _ => none
def fldC (cs : List Str) (d : Dt) (f : Str) : Option Dt := match d with | .obj cn fs => if cs.contains cn then fs.lookup f else none | _ => none
def eArgs : List AE → EM (List Dt)
  | [], ρ => .ok [] ρ
  | .val e :: r, ρ => (e ρ).bind fun d ρ1 => (eArgs r ρ1).bind fun ds ρ2 => .ok (d :: ds) ρ2
  | .own i :: r, ρ => if (gv ρ i).isSome then (eArgs r ρ).bind fun ds ρ2 => (match gv ρ2 i with | some d => .ok (d :: ds) ρ2 | none => .stuck) else .stuck
  | .fld cs i f :: r, ρ => if ((gv ρ i).bind (fldC cs · f)).isSome then (eArgs r ρ).bind fun ds ρ2 => (match (gv ρ2 i).bind (fldC cs · f) with | some d => .ok (d :: ds) ρ2 | none => .stuck) else .stuck
def eOp (f : List Dt → Option Dt) (as : List AE) : EM Dt := fun ρ => (eArgs as ρ).bind fun ds ρ1 => match f ds with | some z => .ok z ρ1 | none => .stuck
def eIf (c : EM Bool) (a b : EM Dt) : EM Dt := fun ρ => (c ρ).bind fun k ρ1 => if k = true then a ρ1 else b ρ1
def cOf (e : EM Dt) : EM Bool := fun ρ => (e ρ).bind fun d ρ1 => match d with | .bl b => .ok b ρ1 | _ => .stuck
def eOf (c : EM Bool) : EM Dt := fun ρ => (c ρ).bind fun b ρ1 => .ok (.bl b) ρ1
def cAnd (a b : EM Bool) : EM Bool := fun ρ => (a ρ).bind fun k ρ1 => if k = true then b ρ1 else .ok false ρ1
def cOr (a b : EM Bool) : EM Bool := fun ρ => (a ρ).bind fun k ρ1 => if k = true then .ok true ρ1 else b ρ1
def cNot (a : EM Bool) : EM Bool := fun ρ => (a ρ).bind fun k ρ1 => .ok (!k) ρ1
def truD : Dt → Option Bool
  | .non => some false
  | .bl b => some b
  | .int i => some (i != 0)
  | .str x => if x.length ≤ 16777216 then some ((x.length : Int) != 0) else none
  | .lst l => some (!l.isEmpty)
  | .rol l => some (!l.isEmpty)
  | .tup l => some (!l.isEmpty)
  | _ => none
def cTru (a : List AE) : EM Bool := fun ρ => (eArgs a ρ).bind fun ds ρ1 => match ds with | [d] => (match truD d with | some b => .ok b ρ1 | none => .stuck) | _ => .stuck
/-! ### what a reading is to be good for -/
/-- what is wished of errors, and how the names are held there -/
structure Fx where
  W : WX
  sx : Ss
  kp : Nat → Bool
  /-- how the value that a def hands back is held, and the names then; the names at a loop's end -/
  rs : Sh
  sr : Ss
  sl : Ss
  F : FP
  /-- quiet: nothing that stands is changed -/
  q : Bool
def XAt (cl : Str → Option Addr) (K : PySem.W.Frag) (M : Hp) (e : Ex) (c : Value) (dx : Option Addr) : Prop :=
  ∃ C, cl e.c = some C ∧ c = .ref C ∧ ((e.fs = [] ∧ dx = none) ∨ ∃ a xs, dx = some a ∧ e.fs ≠ [] ∧ M a = some (.xd xs) ∧ (∀ k, (xs.lookup k).isSome = (e.fs.lookup k).isSome) ∧ ∀ k v d, xs.lookup k = some v → e.fs.lookup k = some d → At cl K M v d)
section
variable (cl : Str → Option Addr) (K : PySem.W.Frag) (c : Fx)
def XPost (B : Addr → Prop) (Ai : Nat → Addr → Prop) (σ : L2.St) (H : Hp) (e : Ex) (ρ' : Env) : Prop :=
  ∀ cv dx σ' Ai' H', Ext c.q B Ai H Ai' H' → Rep cl K c.F B Ai' c.sx ρ' σ' H' → (∀ i, c.kp i = true → σ'[i]? = σ[i]?) → XAt cl K (MH B Ai' H') e cv dx → c.W cv dx σ' H'
def EPost (B : Addr → Prop) (Ai : Nat → Addr → Prop) (ss : Ss) (σ : L2.St) (H : Hp) (s : Sh) (Q : VK) : Er Dt → Prop
  | .ok d ρ' => ∀ v Ai' H', Ext c.q B Ai H Ai' H' → Rep cl K c.F B Ai' ss ρ' σ H' → Own cl K (MH B Ai' H') H' s v d (Ai' σ.length) → Q v H'
  | .ex e ρ' => XPost cl K c B Ai σ H e ρ'
  | .stuck => False
def TPost (B : Addr → Prop) (Ai : Nat → Addr → Prop) (ss : Ss) (σ : L2.St) (H : Hp) (Q : Bool → Hp → Prop) : Er Bool → Prop
  | .ok b ρ' => ∀ Ai' H', Ext c.q B Ai H Ai' H' → Rep cl K c.F B Ai' ss ρ' σ H' → Q b H'
  | .ex e ρ' => XPost cl K c B Ai σ H e ρ'
  | .stuck => False
def AOk (M H : Hp) (σ : L2.St) (ρ : Env) : AE → V → Dt → Prop
  | .val _, v, d => At cl K M v d
  | .own i, v, d => σ[i]? = some (some v) ∧ gv ρ i = some d
  | .fld _ i f, v, d => ∃ a C dx fs o, σ[i]? = some (some (.ref a)) ∧ gv ρ i = some o ∧ H a = some (.ins C dx fs) ∧ fs.lookup f = some v ∧ fldD o f = some d
inductive AllOk (M H : Hp) (σ : L2.St) (ρ : Env) : List AE → List V → List Dt → Prop
  | nil : AllOk M H σ ρ [] [] []
  | cons {a : AE} {as : List AE} {v : V} {vs : List V} {d : Dt} {ds : List Dt} : AOk cl K M H σ ρ a v d → AllOk M H σ ρ as vs ds → AllOk M H σ ρ (a :: as) (v :: vs) (d :: ds)
def APost (B : Addr → Prop) (Ai : Nat → Addr → Prop) (ss : Ss) (σ : L2.St) (H : Hp) (as : List AE) (Q : List V → Hp → Prop) : Er (List Dt) → Prop
  | .ok ds ρ' => ∀ vs Ai' H', Ext c.q B Ai H Ai' H' → Rep cl K c.F B Ai' ss ρ' σ H' → AllOk cl K (MH B Ai' H') H' σ ρ' as vs ds → Q vs H'
  | .ex e ρ' => XPost cl K c B Ai σ H e ρ'
  | .stuck => False
/-- the reading t answers as the word e says, the value held as s -/
def SE (ss : Ss) (s : Sh) (t : TE) (e : EM Dt) : Prop := ∀ B Ai ρ σ H Q, Rep cl K c.F B Ai ss ρ σ H → EPost cl K c B Ai ss σ H s Q (e ρ) → t σ H Q
def ST (ss : Ss) (t : TT) (e : EM Bool) : Prop := ∀ B Ai ρ σ H Q, Rep cl K c.F B Ai ss ρ σ H → TPost cl K c B Ai ss σ H Q (e ρ) → t σ H Q
def SA (ss : Ss) (t : TA) (as : List AE) : Prop := ∀ B Ai ρ σ H Q, Rep cl K c.F B Ai ss ρ σ H → APost cl K c B Ai ss σ H as Q (eArgs as ρ) → t σ H Q
/-- a quiet expression: nothing is made or changed -/
def SQ (ss : Ss) (t : TE) (e : EM Dt) : Prop := ∀ B Ai ρ σ H Q, Rep cl K c.F B Ai ss ρ σ H → ∀ d ρ', e ρ = .ok d ρ' → ρ' = ρ ∧ ((∀ v, At cl K (MH B Ai H) v d → Q v H) → t σ H Q)
def QQ (e : EM Dt) : Prop := ∀ ρ, (∃ d, e ρ = .ok d ρ) ∨ e ρ = .stuck
end
section
variable {cl : Str → Option Addr} {K : PySem.W.Frag} {c : Fx} {B : Addr → Prop} {Ai Ai' Ai1 Ai2 : Nat → Addr → Prop} {ss ss' : Ss} {ρ ρ' : Env} {σ σ' : L2.St} {M H H' H1 H2 : Hp} {v : V} {d : Dt} {s : Sh} {A : Addr → Prop}
  {t ta tb : TE} {e e' a b : EM Dt} {tt t1 t2 : TT} {c1 c2 : EM Bool} {tA : TA} {as : List AE}
theorem gv_some {i : Nat} (h : gv ρ i = some d) : ρ[i]? = some (some d) := by
  unfold gv at h
  cases e : ρ[i]? with
  | none => rw [e] at h; cases h
  | some x => rw [e] at h; cases x with
    | none => cases h
    | some y => cases h; rfl
theorem XPost.ext {x : Ex} (h : Ext c.q B Ai H Ai1 H1) (p : XPost cl K c B Ai σ H x ρ') : XPost cl K c B Ai1 σ H1 x ρ' := fun cv dx σ' Ai' H' e => p cv dx σ' Ai' H' (h.trans e)
/-- one after the other -/
theorem SE.use {Q : VK} (h : SE cl K c ss s t e) (R : Rep cl K c.F B Ai ss ρ σ H) (q : ∀ d ρ', e ρ = .ok d ρ' → ∀ v Ai' H', Ext c.q B Ai H Ai' H' → Rep cl K c.F B Ai' ss ρ' σ H' → Own cl K (MH B Ai' H') H' s v d (Ai' σ.length) → Q v H')
    (qx : ∀ x ρ', e ρ = .ex x ρ' → XPost cl K c B Ai σ H x ρ') (qs : e ρ = .stuck → False) : t σ H Q := by
  refine h B Ai ρ σ H Q R ?_
  cases er : e ρ with
  | ok d ρ' => exact q d ρ' er
  | ex x ρ' => exact qx x ρ' er
  | stuck => exact qs er
theorem ST.use {Q : Bool → Hp → Prop} (h : ST cl K c ss tt c1) (R : Rep cl K c.F B Ai ss ρ σ H) (q : ∀ b ρ', c1 ρ = .ok b ρ' → ∀ Ai' H', Ext c.q B Ai H Ai' H' → Rep cl K c.F B Ai' ss ρ' σ H' → Q b H')
    (qx : ∀ x ρ', c1 ρ = .ex x ρ' → XPost cl K c B Ai σ H x ρ') (qs : c1 ρ = .stuck → False) : tt σ H Q := by
  refine h B Ai ρ σ H Q R ?_
  cases er : c1 ρ with
  | ok d ρ' => exact q d ρ' er
  | ex x ρ' => exact qx x ρ' er
  | stuck => exact qs er
theorem SA.use {Q : List V → Hp → Prop} (h : SA cl K c ss tA as) (R : Rep cl K c.F B Ai ss ρ σ H) (q : ∀ ds ρ', eArgs as ρ = .ok ds ρ' → ∀ vs Ai' H', Ext c.q B Ai H Ai' H' → Rep cl K c.F B Ai' ss ρ' σ H' → AllOk cl K (MH B Ai' H') H' σ ρ' as vs ds → Q vs H')
    (qx : ∀ x ρ', eArgs as ρ = .ex x ρ' → XPost cl K c B Ai σ H x ρ') (qs : eArgs as ρ = .stuck → False) : tA σ H Q := by
  refine h B Ai ρ σ H Q R ?_
  cases er : eArgs as ρ with
  | ok d ρ' => exact q d ρ' er
  | ex x ρ' => exact qx x ρ' er
  | stuck => exact qs er
theorem se_var {i : Nat} (hf : sh ss i = .fz := by rfl) : SE cl K c ss .fz (tVar i) (eVar i) := fun B Ai ρ σ H Q R p => by
  unfold eVar at p
  cases e : gv ρ i with
  | none => rw [e] at p; exact p.elim
  | some d =>
    rw [e] at p
    obtain ⟨v, h1, h2⟩ := R.getFz (gv_some e) hf
    obtain ⟨Ai', x, R', o⟩ := R.res (.old h2)
    exact ⟨v, h1, p v Ai' H x R' o⟩
theorem se_const {v : V} {d : Dt} (h : ∀ M, At cl K M v d) : SE cl K c ss .fz (tC v) (eC d) := fun B Ai ρ σ H Q R p => by
  obtain ⟨Ai', x, R', o⟩ := R.res (.old (h _))
  exact p v Ai' H x R' o
theorem se_int {i : Int} : SE cl K c ss .fz (tC (.int i)) (eC (.int i)) := se_const fun _ => .int i
theorem se_bl {b : Bool} : SE cl K c ss .fz (tC (.bl b)) (eC (.bl b)) := se_const fun _ => .bl b
theorem se_str {x : Str} : SE cl K c ss .fz (tC (.str x)) (eC (.str x)) := se_const fun _ => .str x
theorem se_non : SE cl K c ss .fz (tC .non) (eC .non) := se_const fun _ => .non
/-- arguments -/
theorem sa_nil : SA cl K c ss tNil [] := fun B Ai ρ σ H Q R p => p [] Ai H .refl R .nil
theorem sa_val (h : SE cl K c ss .fz t e) (hr : SA cl K c ss tA as) : SA cl K c ss (tCons t tA) (.val e :: as) := fun B Ai ρ σ H Q R p => by
  unfold eArgs at p
  refine h.use R (fun d ρ1 e1 v Ai1 H1 x1 R1 o1 => hr.use R1 (fun ds ρ2 e2 vs Ai2 H2 x2 R2 k => ?_) (fun x ρ2 e2 => ?_) fun e2 => ?_) (fun x ρ1 e1 => ?_) fun e1 => ?_
  · simp only [e1, e2, Er.bind] at p
    exact p (v :: vs) Ai2 H2 (x1.trans x2) R2 (.cons (o1.fzAt.1.mono x2.same) k)
  · simp only [e1, e2, Er.bind] at p
    exact XPost.ext x1 p
  · simp only [e1, e2, Er.bind] at p
    exact p
  · simp only [e1, Er.bind] at p
    exact p
  · simp only [e1, Er.bind] at p
    exact p
theorem sa_own {i : Nat} (hr : SA cl K c ss tA as) : SA cl K c ss (tCons (tVar i) tA) (.own i :: as) := fun B Ai ρ σ H Q R p => by
  unfold eArgs at p
  cases e1 : gv ρ i with
  | none => simp [e1] at p; exact p.elim
  | some d0 =>
    simp only [e1, Option.isSome_some, if_true] at p
    obtain ⟨v, hv, _⟩ := R.get (gv_some e1)
    refine ⟨v, hv, hr.use R (fun ds ρ2 e2 vs Ai2 H2 x2 R2 k => ?_) (fun x ρ2 e2 => ?_) fun e2 => ?_⟩
    · simp only [e2, Er.bind] at p
      cases e3 : gv ρ2 i with
      | none => rw [e3] at p; exact p.elim
      | some d => rw [e3] at p; exact p (v :: vs) Ai2 H2 x2 R2 (.cons ⟨hv, e3⟩ k)
    · simp only [e2, Er.bind] at p
      exact p
    · simp only [e2, Er.bind] at p
      exact p
/-- a thing that is looked at: shared, or held as a flat list or dict -/
inductive Bor (cl : Str → Option Addr) (K : PySem.W.Frag) (M H : Hp) : V → Dt → Prop
  | at {v : V} {d : Dt} : At cl K M v d → Bor cl K M H v d
  | new {p : Addr} {o : HO} {d : Dt} : hoSh o ≠ .fz → H p = some o → NewO cl K M p o d → Bor cl K M H (.ref p) d
def flatSh : Sh → Bool
  | .fz => true
  | .ls .fz => true
  | .dc .fz => true
  | .dt .fz => true
  | _ => false
theorem Own.bor (h : Own cl K M H s v d A) (hf : flatSh s = true) : Bor cl K M H v d := by
  cases h with
  | fz h _ => exact .at h
  | @ls p s xs ds _ Ai h1 h2 h3 =>
    cases s with
    | fz => exact .new (by intro z; cases z) h1 (.lst h2 fun i v d a b => (h3 i v d a b).fzAt.1)
    | _ => cases hf
  | @dc p s xs ds _ Ai h1 h2 hk h3 =>
    cases s with
    | fz => exact .new (by intro z; cases z) h1 (.dic h2 hk fun i k v kd d a b => (h3 i k v kd d a b).fzAt.1)
    | _ => cases hf
  | @dt p s xs ds _ Ai h1 h2 hk h3 =>
    cases s with
    | fz => exact .new (by intro z; cases z) h1 (.dit h2 hk fun i k b v kd d x y => (h3 i k b v kd d x y).fzAt.1)
    | _ => cases hf
  | ob Ai ho =>
    cases s with
    | ob => cases hf
    | of _ _ _ => cases hf
    | _ => cases ho
theorem Bor.lst {l : List Dt} (sm : Same M H) (h : Bor cl K M H v (.lst l)) : ∃ a xs, v = .ref a ∧ H a = some (.lst xs) ∧ xs.length = l.length ∧ ∀ (i : Nat) v d, xs[i]? = some v → l[i]? = some d → At cl K M v d := by
  cases h with
  | «at» h => cases h with
    | lst h1 h2 h3 => exact ⟨_, _, rfl, sm _ _ h1, h2, h3⟩
  | new hn h1 h => cases h with
    | lst h2 h3 => exact ⟨_, _, rfl, h1, h2, h3⟩
theorem Bor.rol {l : List Dt} (sm : Same M H) (h : Bor cl K M H v (.rol l)) : ∃ a xs, v = .ref a ∧ SqL K H a xs ∧ xs.length = l.length ∧ ∀ (i : Nat) v d, xs[i]? = some v → l[i]? = some d → At cl K M v d := by
  cases h with
  | «at» h => cases h with
    | rol h1 h2 h3 => exact ⟨_, _, rfl, sm.seq h1, h2, h3⟩
  | new hn h1 h => cases h
/-- a list of either kind -/
def lstI : Dt → Option (List Dt) | .lst l => some l | .rol l => some l | _ => none
theorem Bor.lsts {l : List Dt} {d : Dt} (sm : Same M H) (h : Bor cl K M H v d) (e : lstI d = some l) : ∃ a xs, v = .ref a ∧ SqL K H a xs ∧ xs.length = l.length ∧ ∀ (i : Nat) v d, xs[i]? = some v → l[i]? = some d → At cl K M v d := by
  cases d with
  | lst l' => cases e; obtain ⟨a, xs, h1, h2, h3⟩ := h.lst sm; exact ⟨a, xs, h1, SqL.of h2, h3⟩
  | rol l' => cases e; exact h.rol sm
  | _ => cases e
theorem Bor.tup {l : List Dt} (sm : Same M H) (h : Bor cl K M H v (.tup l)) : ∃ a xs, v = .ref a ∧ SqT K H a xs ∧ xs.length = l.length ∧ ∀ (i : Nat) v d, xs[i]? = some v → l[i]? = some d → At cl K M v d := by
  cases h with
  | «at» h => cases h with
    | tup h1 h2 h3 => exact ⟨_, _, rfl, sqt_same sm h1, h2, h3⟩
  | new hn h1 h => cases h with
    | tup h2 h3 => exact absurd rfl hn
/-- a tuple may be shared -/
theorem Bor.tupAt {l : List Dt} (h : Bor cl K M H v (.tup l)) : At cl K M v (.tup l) := by
  cases h with
  | «at» h => exact h
  | new hn h1 h => cases h with
    | tup h2 h3 => exact absurd rfl hn
theorem Bor.int {i : Int} (h : Bor cl K M H v (.int i)) : v = .int i := by
  cases h with
  | «at» h => cases h; rfl
  | new hn h1 h => cases h
theorem Bor.bl {i : Bool} (h : Bor cl K M H v (.bl i)) : v = .bl i := by
  cases h with
  | «at» h => cases h; rfl
  | new hn h1 h => cases h
theorem Bor.str {i : Str} (h : Bor cl K M H v (.str i)) : v = .str i := by
  cases h with
  | «at» h => cases h; rfl
  | new hn h1 h => cases h
theorem Bor.non (h : Bor cl K M H v .non) : v = .non := by
  cases h with
  | «at» h => cases h; rfl
  | new hn h1 h => cases h
inductive Bors (cl : Str → Option Addr) (K : PySem.W.Frag) (M H : Hp) : List V → List Dt → Prop
  | nil : Bors cl K M H [] []
  | cons {v : V} {vs : List V} {d : Dt} {ds : List Dt} : Bor cl K M H v d → Bors cl K M H vs ds → Bors cl K M H (v :: vs) (d :: ds)
/-- may the arguments be looked at? -/
def flatAs (ss : Ss) : List AE → Bool
  | [] => true
  | .val _ :: r => flatAs ss r
  | .own i :: r => flatSh (sh ss i) && flatAs ss r
  | .fld _ i f :: r => (sh ss i).isOb && flatSh ((sh ss i).fld f) && flatAs ss r
/-- two tables with the same keys -/
theorem lookup_two {α β : Type} {xs : List (Str × α)} {ds : List (Str × β)} {f : Str} {x : β} (hk : ∀ k, (xs.lookup k).isSome = (ds.lookup k).isSome) (h : ds.lookup f = some x) : ∃ v : α, xs.lookup f = some v :=
  Option.isSome_iff_exists.mp ((hk f).trans (by rw [h]; rfl))
end
section
variable {cl : Str → Option Addr} {K : PySem.W.Frag} {c : Fx} {B : Addr → Prop} {Ai Ai' Ai1 Ai2 : Nat → Addr → Prop} {ss ss' : Ss} {ρ ρ' : Env} {σ σ' : L2.St} {M H H' H1 H2 : Hp} {v : V} {d : Dt} {s : Sh} {A : Addr → Prop}
  {t ta tb : TE} {e e' a b : EM Dt} {tt t1 t2 : TT} {c1 c2 : EM Bool} {tA : TA} {as : List AE} {vs : List V} {ds : List Dt} {f : Str}
/-- a field of what is held -/
theorem Own.field {o : Dt} {x : V} {xs : List (Str × V)} {p C dx : Addr} (h : Own cl K M H s (.ref p) o A) (ho : s.isOb = true) (hp : H p = some (.ins C dx xs)) (hf : fldD o f = some d) :
    ∃ v A', xs.lookup f = some v ∧ Own cl K M H (s.fld f) v d A' := by
  cases h with
  | fz => cases ho
  | ls => cases ho
  | dc => cases ho
  | dt => cases ho
  | @ob _ C' dx' cn _ ys es _ Ai _ h1 hc h2 hk h3 =>
    rw [h1] at hp
    cases hp
    obtain ⟨v, e3⟩ := lookup_two hk hf
    exact ⟨v, _, e3, h3 f v d e3 hf⟩
theorem AllOk.bors (R : Rep cl K c.F B Ai ss ρ σ H) (h : AllOk cl K (MH B Ai H) H σ ρ as vs ds) (hf : flatAs ss as = true) : Bors cl K (MH B Ai H) H vs ds := by
  induction h with
  | nil => exact .nil
  | @cons a as v vs d ds ha hr ih =>
    cases a with
    | val e => exact .cons (.at ha) (ih hf)
    | own i =>
      unfold flatAs at hf
      simp only [Bool.and_eq_true] at hf
      obtain ⟨v', h1, h2⟩ := R.row i d (gv_some ha.2)
      rw [ha.1] at h1
      cases h1
      exact .cons (h2.bor hf.1) (ih hf.2)
    | fld cs i f =>
      unfold flatAs at hf
      simp only [Bool.and_eq_true] at hf
      obtain ⟨p, C, dx, xs, o, h1, h2, h3, h4, h5⟩ := ha
      obtain ⟨v', q1, q2⟩ := R.row i o (gv_some h2)
      rw [h1] at q1
      cases q1
      obtain ⟨v2, A', q3, q4⟩ := q2.field hf.1.1 h3 h5 (x := v)
      rw [h4] at q3
      cases q3
      exact .cons (q4.bor hf.1.2) (ih hf.2)
theorem Bors.len (h : Bors cl K M H vs ds) : vs.length = ds.length := by
  induction h with
  | nil => rfl
  | cons _ _ ih => simp [ih]
/-- the arguments as things that may be shared -/
def valAs : List AE → Bool
  | [] => true
  | .val _ :: r => valAs r
  | _ => false
theorem AllOk.ats (h : AllOk cl K M H σ ρ as vs ds) (hf : valAs as = true) : vs.length = ds.length ∧ ∀ (i : Nat) v d, vs[i]? = some v → ds[i]? = some d → At cl K M v d := by
  induction h with
  | nil => exact ⟨rfl, fun i v d e => by simp at e⟩
  | @cons a as v vs d ds ha hr ih =>
    cases a with
    | val e =>
      obtain ⟨h1, h2⟩ := ih hf
      refine ⟨by simp [h1], fun i v' d' e1 e2 => ?_⟩
      cases i with
      | zero => simp at e1 e2; rw [← e1, ← e2]; exact ha
      | succ i => exact h2 i v' d' (by simpa using e1) (by simpa using e2)
    | own i => cases hf
    | fld cs i f => cases hf
/-- an operation on values, by what it makes of the data -/
def OpS (cl : Str → Option Addr) (K : PySem.W.Frag) (f : List Dt → Option Dt) (k : List V → Hp → VK → Prop) : Prop :=
  ∀ (M H : Hp) (vs : List V) (ds : List Dt) (z : Dt) (Q : VK), Same M H → Bors cl K M H vs ds → f ds = some z → (∀ v H', Res cl K M H v H' z → Q v H') → k vs H Q
/-- .. that makes a new object of the shape s -/
def OpN (cl : Str → Option Addr) (K : PySem.W.Frag) (s : Sh) (f : List Dt → Option Dt) (k : List V → Hp → VK → Prop) : Prop :=
  ∀ (M H : Hp) (vs : List V) (ds : List Dt) (z : Dt) (Q : VK), Same M H → Bors cl K M H vs ds → f ds = some z → (∀ p o, H p = none → hoSh o = s → NewO cl K M p o z → Q (.ref p) (upd H p o)) → k vs H Q
theorem OpN.toS {f : List Dt → Option Dt} {k : List V → Hp → VK → Prop} (h : OpN cl K s f k) : OpS cl K f k := fun M H vs ds z Q sm hb e q => h M H vs ds z Q sm hb e fun p o n _ h => q _ _ (.new n h)
abbrev tOpA (k : List V → Hp → VK → Prop) (tA : TA) : TE := fun σ H Q => tA σ H fun vs H1 => k vs H1 Q
theorem eOp_ok {g : List Dt → Option Dt} {ds : List Dt} {ρ' : Env} (h : eArgs as ρ = .ok ds ρ') : eOp g as ρ = match g ds with | some z => .ok z ρ' | none => .stuck := by
  unfold eOp; rw [h]; rfl
theorem eOp_ex {g : List Dt → Option Dt} {x : Ex} {ρ' : Env} (h : eArgs as ρ = .ex x ρ') : eOp g as ρ = .ex x ρ' := by unfold eOp; rw [h]; rfl
theorem eOp_st {g : List Dt → Option Dt} (h : eArgs as ρ = .stuck) : eOp g as ρ = .stuck := by unfold eOp; rw [h]; rfl
theorem se_op {g : List Dt → Option Dt} {k : List V → Hp → VK → Prop} (ho : OpS cl K g k) (ha : SA cl K c ss tA as) (hf : flatAs ss as = true := by rfl) : SE cl K c ss .fz (tOpA k tA) (eOp g as) := fun B Ai ρ σ H Q R p => by
  refine ha.use R (fun ds ρ1 e1 vs Ai1 H1 x1 R1 ok => ?_) (fun x ρ1 e1 => by rw [eOp_ex e1] at p; exact p) fun e1 => by rw [eOp_st e1] at p; exact p
  rw [eOp_ok e1] at p
  cases e2 : g ds with
  | none => rw [e2] at p; exact p.elim
  | some z =>
    rw [e2] at p
    refine ho _ H1 vs ds z Q mask_same (ok.bors R1 hf) e2 fun v H2 r => ?_
    obtain ⟨Ai2, x2, R2, o2⟩ := R1.res r
    exact p v Ai2 H2 (x1.trans x2) R2 o2
theorem sn_op {g : List Dt → Option Dt} {k : List V → Hp → VK → Prop} (ho : OpN cl K s g k) (ha : SA cl K c ss tA as) (hs : s ≠ .fz := by decide) (hf : flatAs ss as = true := by rfl) : SE cl K c ss s (tOpA k tA) (eOp g as) := fun B Ai ρ σ H Q R p => by
  refine ha.use R (fun ds ρ1 e1 vs Ai1 H1 x1 R1 ok => ?_) (fun x ρ1 e1 => by rw [eOp_ex e1] at p; exact p) fun e1 => by rw [eOp_st e1] at p; exact p
  rw [eOp_ok e1] at p
  cases e2 : g ds with
  | none => rw [e2] at p; exact p.elim
  | some z =>
    rw [e2] at p
    refine ho _ H1 vs ds z Q mask_same (ok.bors R1 hf) e2 fun q o n h1 h2 => ?_
    subst h1
    obtain ⟨Ai2, x2, R2, o2⟩ := R1.own n h2 hs
    exact p _ Ai2 _ (x1.trans x2) R2 o2
/-- operators as HandS writes them -/
abbrev k1 (r : V → Hp → VK → Prop) : List V → Hp → VK → Prop := fun vs H Q => match vs with | [x] => r x H Q | _ => False
abbrev k2 (r : R2) : List V → Hp → VK → Prop := fun vs H Q => match vs with | [x, y] => r x y H Q | _ => False
theorem se_op2 {r : R2} {g : List Dt → Option Dt} {as : List AE} (ho : OpS cl K g (k2 r)) (ha : SA cl K c ss (tCons ta (tCons tb tNil)) as) (hf : flatAs ss as = true := by rfl) : SE cl K c ss .fz (tOp r ta tb) (eOp g as) := se_op ho ha hf
theorem sn_op2 {r : R2} {g : List Dt → Option Dt} {as : List AE} (ho : OpN cl K s g (k2 r)) (ha : SA cl K c ss (tCons ta (tCons tb tNil)) as) (hs : s ≠ .fz := by decide) (hf : flatAs ss as = true := by rfl) : SE cl K c ss s (tOp r ta tb) (eOp g as) := sn_op ho ha hs hf
theorem se_op1 {r : V → Hp → VK → Prop} {g : List Dt → Option Dt} {as : List AE} (ho : OpS cl K g (k1 r)) (ha : SA cl K c ss (tCons ta tNil) as) (hf : flatAs ss as = true := by rfl) : SE cl K c ss .fz (tUn r ta) (eOp g as) := se_op ho ha hf
/-- tests -/
theorem st_val (h : SE cl K c ss .fz t e) : ST cl K c ss (tTest t) (cOf e) := fun B Ai ρ σ H Q R p => by
  unfold cOf at p
  refine h.use R (fun d ρ1 e1 v Ai1 H1 x1 R1 o1 => ?_) (fun x ρ1 e1 => by simp only [e1, Er.bind] at p; exact p) fun e1 => by simp only [e1, Er.bind] at p; exact p
  simp only [e1, Er.bind] at p
  cases d with
  | bl b => obtain rfl := Bor.bl (.at o1.fzAt.1) (H := H1); exact ⟨b, rfl, p Ai1 H1 x1 R1⟩
  | _ => exact p.elim
theorem st_b (h : SE cl K c ss .fz t e) : ST cl K c ss (tB t) (cOf e) := st_val h
theorem st_and (h1 : ST cl K c ss t1 c1) (h2 : ST cl K c ss t2 c2) : ST cl K c ss (tAnd t1 t2) (cAnd c1 c2) := fun B Ai ρ σ H Q R p => by
  unfold cAnd at p
  refine h1.use R (fun b ρ1 e1 Ai1 H1 x1 R1 => ?_) (fun x ρ1 e1 => by simp only [e1, Er.bind] at p; exact p) fun e1 => by simp only [e1, Er.bind] at p; exact p
  simp only [e1, Er.bind] at p
  cases b with
  | true =>
    rw [if_pos rfl] at p
    refine iteT (h2.use R1 (fun b2 ρ2 e2 Ai2 H2 x2 R2 => ?_) (fun x ρ2 e2 => ?_) fun e2 => ?_)
    · rw [e2] at p; exact p Ai2 H2 (x1.trans x2) R2
    · rw [e2] at p; exact XPost.ext x1 p
    · rw [e2] at p; exact p
  | false => exact iteF (p Ai1 H1 x1 R1)
theorem st_or (h1 : ST cl K c ss t1 c1) (h2 : ST cl K c ss t2 c2) : ST cl K c ss (tOr t1 t2) (cOr c1 c2) := fun B Ai ρ σ H Q R p => by
  unfold cOr at p
  refine h1.use R (fun b ρ1 e1 Ai1 H1 x1 R1 => ?_) (fun x ρ1 e1 => by simp only [e1, Er.bind] at p; exact p) fun e1 => by simp only [e1, Er.bind] at p; exact p
  simp only [e1, Er.bind] at p
  cases b with
  | true => exact iteT (p Ai1 H1 x1 R1)
  | false =>
    rw [if_neg (by decide)] at p
    refine iteF (h2.use R1 (fun b2 ρ2 e2 Ai2 H2 x2 R2 => ?_) (fun x ρ2 e2 => ?_) fun e2 => ?_)
    · rw [e2] at p; exact p Ai2 H2 (x1.trans x2) R2
    · rw [e2] at p; exact XPost.ext x1 p
    · rw [e2] at p; exact p
theorem st_not (h1 : ST cl K c ss t1 c1) : ST cl K c ss (tNot t1) (cNot c1) := fun B Ai ρ σ H Q R p => by
  unfold cNot at p
  refine h1.use R (fun b ρ1 e1 Ai1 H1 x1 R1 => ?_) (fun x ρ1 e1 => by simp only [e1, Er.bind] at p; exact p) fun e1 => by simp only [e1, Er.bind] at p; exact p
  simp only [e1, Er.bind] at p
  exact p Ai1 H1 x1 R1
theorem Bor.tru {b : Bool} (sm : Same M H) (h : Bor cl K M H v d) (e : truD d = some b) : TruV K v H b := by
  cases d with
  | non => obtain rfl := h.non; simp [truD] at e; exact e.symm ▸ rfl
  | bl x => obtain rfl := h.bl; simp [truD] at e; exact e.symm ▸ rfl
  | int x => obtain rfl := h.int; simp [truD] at e; exact e.symm ▸ rfl
  | str x =>
    obtain rfl := h.str
    change (if x.length ≤ 16777216 then some ((x.length : Int) != 0) else none) = some b at e
    by_cases hz : x.length ≤ 16777216
    · rw [if_pos hz] at e; cases e; exact ⟨line_of hz, rfl⟩
    · rw [if_neg hz] at e; cases e
  | lst l =>
    obtain ⟨p, xs, rfl, h1, h2, _⟩ := h.lst sm
    obtain rfl : (!l.isEmpty) = b := Option.some.inj e
    exact .inl ⟨xs, SqL.of h1, by cases xs <;> cases l <;> simp_all⟩
  | rol l =>
    obtain ⟨p, xs, rfl, h1, h2, _⟩ := h.rol sm
    obtain rfl : (!l.isEmpty) = b := Option.some.inj e
    exact .inl ⟨xs, h1, by cases xs <;> cases l <;> simp_all⟩
  | tup l =>
    obtain ⟨p, xs, rfl, h1, h2, _⟩ := h.tup sm
    obtain rfl : (!l.isEmpty) = b := Option.some.inj e
    exact .inr (.inl ⟨xs, h1, by cases xs <;> cases l <;> simp_all⟩)
  | ty n => cases e
  | dic l => cases e
  | rdc l => cases e
  | dit l => cases e
  | rdt l => cases e
  | obj _ _ => cases e
theorem st_tru {as : List AE} (ha : SA cl K c ss (tCons ta tNil) as) (hf : flatAs ss as = true := by rfl) : ST cl K c ss (tTruth K ta) (cTru as) := fun B Ai ρ σ H Q R p => by
  unfold cTru at p
  refine ha.use (Q := fun vs H1 => match vs with | [x] => ∃ k, TruV K x H1 k ∧ Q k H1 | _ => False) R (fun ds ρ1 e1 vs Ai1 H1 x1 R1 ok => ?_) (fun x ρ1 e1 => by simp only [e1, Er.bind] at p; exact p) fun e1 => by simp only [e1, Er.bind] at p; exact p
  simp only [e1, Er.bind] at p
  have bs := ok.bors R1 hf
  cases bs with
  | nil => exact p.elim
  | cons hb hr =>
    cases hr with
    | cons _ _ => exact p.elim
    | nil =>
      simp only at p
      split at p
      · rename_i b eb; exact ⟨b, hb.tru mask_same eb, p Ai1 H1 x1 R1⟩
      · exact p.elim
theorem se_if {cc : TT} (h1 : ST cl K c ss cc c1) (h2 : SE cl K c ss s ta a) (h3 : SE cl K c ss s tb b) : SE cl K c ss s (tIf cc ta tb) (eIf c1 a b) := fun B Ai ρ σ H Q R p => by
  unfold eIf at p
  refine h1.use R (fun k ρ1 e1 Ai1 H1 x1 R1 => ?_) (fun x ρ1 e1 => by simp only [e1, Er.bind] at p; exact p) fun e1 => by simp only [e1, Er.bind] at p; exact p
  simp only [e1, Er.bind] at p
  cases k with
  | true =>
    rw [if_pos rfl] at p
    refine iteT (h2.use R1 (fun d ρ2 e2 v Ai2 H2 x2 R2 o => ?_) (fun x ρ2 e2 => ?_) fun e2 => ?_)
    · rw [e2] at p; exact p v Ai2 H2 (x1.trans x2) R2 o
    · rw [e2] at p; exact XPost.ext x1 p
    · rw [e2] at p; exact p
  | false =>
    rw [if_neg (by decide)] at p
    refine iteF (h3.use R1 (fun d ρ2 e2 v Ai2 H2 x2 R2 o => ?_) (fun x ρ2 e2 => ?_) fun e2 => ?_)
    · rw [e2] at p; exact p v Ai2 H2 (x1.trans x2) R2 o
    · rw [e2] at p; exact XPost.ext x1 p
    · rw [e2] at p; exact p
/-- and, or, not as values -/
def eAndV (a b : EM Dt) : EM Dt := fun ρ => (a ρ).bind fun x ρ1 => match x with | .bl k => if k = true then b ρ1 else .ok (.bl false) ρ1 | _ => .stuck
def eOrV (a b : EM Dt) : EM Dt := fun ρ => (a ρ).bind fun x ρ1 => match x with | .bl k => if k = true then .ok (.bl true) ρ1 else b ρ1 | _ => .stuck
theorem se_and (h1 : SE cl K c ss .fz ta a) (h2 : SE cl K c ss .fz tb b) : SE cl K c ss .fz (tAndV ta tb) (eAndV a b) := fun B Ai ρ σ H Q R p => by
  unfold eAndV at p
  refine h1.use R (fun d ρ1 e1 v Ai1 H1 x1 R1 o1 => ?_) (fun x ρ1 e1 => by simp only [e1, Er.bind] at p; exact p) fun e1 => by simp only [e1, Er.bind] at p; exact p
  simp only [e1, Er.bind] at p
  cases d with
  | bl k =>
    obtain rfl := Bor.bl (.at o1.fzAt.1) (H := H1)
    refine ⟨k, rfl, ?_⟩
    cases k with
    | true =>
      simp only [if_true] at p
      refine iteT (h2.use R1 (fun d ρ2 e2 v Ai2 H2 x2 R2 o => ?_) (fun x ρ2 e2 => ?_) fun e2 => ?_)
      · rw [e2] at p; exact p v Ai2 H2 (x1.trans x2) R2 o
      · rw [e2] at p; exact XPost.ext x1 p
      · rw [e2] at p; exact p
    | false =>
      obtain ⟨Ai2, x2, R2, o2⟩ := R1.res (.old (.bl false))
      exact iteF (p _ Ai2 H1 (x1.trans x2) R2 o2)
  | _ => exact p.elim
theorem se_or (h1 : SE cl K c ss .fz ta a) (h2 : SE cl K c ss .fz tb b) : SE cl K c ss .fz (tOrV ta tb) (eOrV a b) := fun B Ai ρ σ H Q R p => by
  unfold eOrV at p
  refine h1.use R (fun d ρ1 e1 v Ai1 H1 x1 R1 o1 => ?_) (fun x ρ1 e1 => by simp only [e1, Er.bind] at p; exact p) fun e1 => by simp only [e1, Er.bind] at p; exact p
  simp only [e1, Er.bind] at p
  cases d with
  | bl k =>
    obtain rfl := Bor.bl (.at o1.fzAt.1) (H := H1)
    refine ⟨k, rfl, ?_⟩
    cases k with
    | false =>
      simp only [Bool.false_eq_true, if_false] at p
      refine iteF (h2.use R1 (fun d ρ2 e2 v Ai2 H2 x2 R2 o => ?_) (fun x ρ2 e2 => ?_) fun e2 => ?_)
      · rw [e2] at p; exact p v Ai2 H2 (x1.trans x2) R2 o
      · rw [e2] at p; exact XPost.ext x1 p
      · rw [e2] at p; exact p
    | true =>
      obtain ⟨Ai2, x2, R2, o2⟩ := R1.res (.old (.bl true))
      exact iteT (p _ Ai2 H1 (x1.trans x2) R2 o2)
  | _ => exact p.elim
def notD : List Dt → Option Dt
  | [.bl b] => some (.bl !b)
  | _ => none
theorem Bors.one {x : Dt} (h : Bors cl K M H vs [x]) : ∃ v, vs = [v] ∧ Bor cl K M H v x := by
  cases h with
  | cons h r => cases r; exact ⟨_, rfl, h⟩
theorem Bors.two {x y : Dt} (h : Bors cl K M H vs [x, y]) : ∃ v w, vs = [v, w] ∧ Bor cl K M H v x ∧ Bor cl K M H w y := by
  cases h with
  | cons h r =>
    obtain ⟨w, rfl, h2⟩ := r.one
    exact ⟨_, _, rfl, h, h2⟩
theorem os_not : OpS cl K notD (k1 fun x H Q => ∃ b, x = .bl b ∧ Q (.bl (!b)) H) := fun M H vs ds z Q sm hb e q => by
  unfold notD at e
  split at e
  · cases e
    obtain ⟨v, rfl, h⟩ := hb.one
    exact ⟨_, h.bl, q _ _ (.old (.bl _))⟩
  · cases e
theorem se_not {as : List AE} (ha : SA cl K c ss (tCons ta tNil) as) (hf : flatAs ss as = true := by rfl) : SE cl K c ss .fz (tNotV ta) (eOp notD as) := se_op os_not ha hf
/-- displays -/
def lstD (ds : List Dt) : Option Dt := if ds.length ≤ 16777216 then some (.lst ds) else none
def tupD (ds : List Dt) : Option Dt := if ds.length ≤ 16777216 then some (.tup ds) else none
theorem sn_lst {as : List AE} (ha : SA cl K c ss tA as) (hf : valAs as = true := by rfl) : SE cl K c ss (.ls .fz) (tLst tA) (eOp lstD as) := fun B Ai ρ σ H Q R p => by
  refine ha.use R (fun ds ρ1 e1 vs Ai1 H1 x1 R1 ok => ?_) (fun x ρ1 e1 => by rw [eOp_ex e1] at p; exact p) fun e1 => by rw [eOp_st e1] at p; exact p
  rw [eOp_ok e1] at p
  unfold lstD at p
  obtain ⟨h1, h2⟩ := ok.ats hf
  by_cases hz : ds.length ≤ 16777216
  · rw [if_pos hz] at p
    refine ⟨line_of (h1 ▸ hz), fun q n => ?_⟩
    obtain ⟨Ai2, x2, R2, o2⟩ := R1.own (o := .lst vs) n (.lst h1 h2) (fun z => nomatch z)
    exact p _ Ai2 _ (x1.trans x2) R2 o2
  · rw [if_neg hz] at p; exact p.elim
theorem se_tup {as : List AE} (ha : SA cl K c ss tA as) (hf : valAs as = true := by rfl) : SE cl K c ss .fz (tTup tA) (eOp tupD as) := fun B Ai ρ σ H Q R p => by
  refine ha.use R (fun ds ρ1 e1 vs Ai1 H1 x1 R1 ok => ?_) (fun x ρ1 e1 => by rw [eOp_ex e1] at p; exact p) fun e1 => by rw [eOp_st e1] at p; exact p
  rw [eOp_ok e1] at p
  unfold tupD at p
  obtain ⟨h1, h2⟩ := ok.ats hf
  by_cases hz : ds.length ≤ 16777216
  · rw [if_pos hz] at p
    refine ⟨line_of (h1 ▸ hz), fun q n => ?_⟩
    obtain ⟨Ai2, x2, R2, o2⟩ := R1.res (.new (o := .tup vs) n (.tup h1 h2))
    exact p _ Ai2 _ (x1.trans x2) R2 o2
  · rw [if_neg hz] at p; exact p.elim
/-- a thing held is given away: it may be shared from now on -/
theorem se_fz (h : SE cl K c ss s t e) : SE cl K c ss .fz t e := fun B Ai ρ σ H Q R p => by
  refine h.use R (fun d ρ1 e1 v Ai1 H1 x1 R1 o1 => ?_) (fun x ρ1 e1 => by rw [e1] at p; exact p) fun e1 => by rw [e1] at p; exact p
  rw [e1] at p
  obtain ⟨R2, x2⟩ := R1.temp
  refine p v _ H1 (x1.trans x2) R2 (.fz (o1.free x2.same fun a o ha ho => mask_some.mpr ⟨fun z => ?_, ho⟩) fun a => by rw [setA_same]; exact fun z => z)
  rcases z with z | ⟨i, z⟩
  · exact R1.nb _ a ha z
  · rcases setA_imp z with ⟨_, z⟩ | ⟨n, z⟩
    · exact z
    · exact n (R1.dj _ _ a z ha)
/-- a field -/
def eFld (cs : List Str) (f : Str) (e : EM Dt) : EM Dt := fun ρ => (e ρ).bind fun d ρ1 => match d with | .obj cn fs => if cs.contains cn then (match fs.lookup f with | some z => .ok z ρ1 | none => .stuck) else .stuck | _ => .stuck
def FldOk (cl : Str → Option Addr) (K : PySem.W.Frag) (cs : List Str) (f : Str) : Prop := ∀ cn, cs.contains cn = true → ∀ C, cl cn = some C → Cls K C ∧ NoAttr K C f
theorem se_fld {cs : List Str} (hc : FldOk cl K cs f) (h : SE cl K c ss .fz t e) : SE cl K c ss .fz (tFld K t f) (eFld cs f e) := fun B Ai ρ σ H Q R p => by
  unfold eFld at p
  refine h.use R (fun d ρ1 e1 v Ai1 H1 x1 R1 o1 => ?_) (fun x ρ1 e1 => by simp only [e1, Er.bind] at p; exact p) fun e1 => by simp only [e1, Er.bind] at p; exact p
  simp only [e1, Er.bind] at p
  cases d with
  | obj cn fs =>
    simp only at p
    split at p
    · rename_i hcn
      split at p
      · rename_i z ez
        obtain ⟨h, _⟩ := o1.fzAt
        cases h with
        | @obj a C dx _ xs _ h1 hC hk h3 =>
          obtain ⟨v, e3⟩ := lookup_two hk ez
          obtain ⟨hc1, hc2⟩ := hc cn hcn C hC
          obtain ⟨Ai2, x2, R2, o2⟩ := R1.res (.old (h3 f v z e3 ez))
          exact ⟨a, C, dx, xs, v, rfl, mask_same _ _ h1, hc1, hc2, e3, p v Ai2 H1 (x1.trans x2) R2 o2⟩
      · exact p.elim
    · exact p.elim
  | _ => exact p.elim
/-- a field (that may be shared) of an object that a name holds -/
theorem se_fldO {cs : List Str} {i : Nat} (hc : FldOk cl K cs f) (ho : (sh ss i).isOb = true := by rfl) (hf : (sh ss i).fld f = .fz := by rfl) : SE cl K c ss .fz (tFld K (tVar i) f) (eFld cs f (eVar i)) := fun B Ai ρ σ H Q R p => by
  unfold eFld eVar at p
  cases e : gv ρ i with
  | none => rw [e] at p; exact p.elim
  | some d =>
    simp only [e, Er.bind] at p
    obtain ⟨v, h1, h2⟩ := R.get (gv_some e)
    generalize sh ss i = s at h2 ho hf
    cases d with
    | obj cn fs =>
      simp only at p
      split at p
      · rename_i hcn
        split at p
        · rename_i z ez
          cases h2 with
          | fz => cases ho
          | @ob a C dx _ _ xs _ _ Ak _ q1 hC q2 hk q3 =>
            obtain ⟨w, e3⟩ := lookup_two hk ez
            obtain ⟨hc1, hc2⟩ := hc cn hcn C hC
            have q := q3 f w z e3 ez
            rw [hf] at q
            obtain ⟨Ai2, x2, R2, o2⟩ := R.res (.old q.fzAt.1)
            exact ⟨_, h1, a, C, dx, xs, w, rfl, q1, hc1, hc2, e3, p w Ai2 H x2 R2 o2⟩
        · exact p.elim
      · exact p.elim
    | _ => exact p.elim
end
/-! ### the words: statements -/
def sSkip : SM := fun ρ => .nx ρ
def sSeq (a b : SM) : SM := fun ρ => (a ρ).then b
def sSet (i : Nat) (e : EM Dt) : SM := fun ρ => (e ρ).go fun d ρ1 => .nx (ρ1.set i (some d))
def sIf (c : EM Bool) (a b : SM) : SM := fun ρ => (c ρ).go fun k ρ1 => if k = true then a ρ1 else b ρ1
def sRet (e : EM Dt) : SM := fun ρ => (e ρ).go fun d ρ1 => .rt d ρ1
def sDo (e : EM Dt) : SM := fun ρ => (e ρ).go fun _ ρ1 => .nx ρ1
def sBrk : SM := fun ρ => .bk ρ
def sCont : SM := fun ρ => .ct ρ
/-- what a loop's turn leaves -/
def Sr.turn : Sr → (Env → Sr) → Sr
  | .nx ρ, f => f ρ
  | .ct ρ, f => f ρ
  | .bk ρ, _ => .nx ρ
  | r, _ => r
def sLoop (g : Dt → Env → Option Env) (body : SM) : List Dt → SM
  | [], ρ => .nx ρ
  | x :: xs, ρ => match g x ρ with
    | some ρ1 => (body ρ1).turn (sLoop g body xs)
    | none => .stuck
/-- the things that a walk gives -/
def itD : Dt → Option (List Dt)
  | .lst l => some l
  | .rol l => some l
  | .tup l => some l
  | _ => none
def gVar (i : Nat) : Dt → Env → Option Env := fun d ρ => some (ρ.set i (some d))
def gAll : List (Dt → Env → Option Env) → List Dt → Env → Option Env
  | [], [], ρ => some ρ
  | g :: gs, d :: ds, ρ => (g d ρ).bind fun ρ1 => gAll gs ds ρ1
  | _, _, _ => none
def gTupD (gs : List (Dt → Env → Option Env)) : Dt → Env → Option Env := fun d ρ => match d with
  | .tup ds => gAll gs ds ρ
  | _ => none
def sUn (e : EM Dt) (g : Dt → Env → Option Env) : SM := fun ρ => (e ρ).go fun d ρ1 => match g d ρ1 with | some ρ2 => .nx ρ2 | none => .stuck
def sFor (it : EM (List Dt)) (g : Dt → Env → Option Env) (body : SM) : SM := fun ρ => (it ρ).go fun xs ρ1 => sLoop g body xs ρ1
def sWhile (c : EM Bool) (body : SM) : Nat → SM
  | 0, _ => .stuck
  | n + 1, ρ => (c ρ).go fun k ρ1 => if k = true then (body ρ1).turn (sWhile c body n) else .nx ρ1
section
variable (cl : Str → Option Addr) (K : PySem.W.Frag) (c : Fx)
def SPost (B : Addr → Prop) (Ai : Nat → Addr → Prop) (ss' : Ss) (σ : L2.St) (H : Hp) (D : Ends) : Sr → Prop
  | .nx ρ' => ∀ σ' Ai' H', Ext c.q B Ai H Ai' H' → Rep cl K c.F B Ai' ss' ρ' σ' H' → (∀ i, c.kp i = true → σ'[i]? = σ[i]?) → D.nx σ' H'
  | .rt d ρ' => ∀ v σ' Ai' H', Ext c.q B Ai H Ai' H' → Rep cl K c.F B Ai' c.sr ρ' σ' H' → (∀ i, c.kp i = true → σ'[i]? = σ[i]?) → Own cl K (MH B Ai' H') H' c.rs v d (Ai' σ'.length) → D.rt v H'
  | .bk ρ' => ∀ σ' Ai' H', Ext c.q B Ai H Ai' H' → Rep cl K c.F B Ai' c.sl ρ' σ' H' → (∀ i, c.kp i = true → σ'[i]? = σ[i]?) → D.bk σ' H'
  | .ct ρ' => ∀ σ' Ai' H', Ext c.q B Ai H Ai' H' → Rep cl K c.F B Ai' c.sl ρ' σ' H' → (∀ i, c.kp i = true → σ'[i]? = σ[i]?) → D.ct σ' H'
  | .ex e ρ' => XPost cl K c B Ai σ H e ρ'
  | .stuck => False
def SS (ss ss' : Ss) (t : TS) (s : SM) : Prop := ∀ B Ai ρ σ H D, Rep cl K c.F B Ai ss ρ σ H → SPost cl K c B Ai ss' σ H D (s ρ) → t D σ H
/-- a target -/
def SG (ss ss' : Ss) (t : TG) (g : Dt → Env → Option Env) : Prop := ∀ B Ai ρ σ H v d ρ' (Q : L2.St → Hp → Prop), Rep cl K c.F B Ai ss ρ σ H → At cl K (MH B Ai H) v d → g d ρ = some ρ' →
  (∀ σ' Ai', Ext c.q B Ai H Ai' H → Rep cl K c.F B Ai' ss' ρ' σ' H → (∀ i, c.kp i = true → σ'[i]? = σ[i]?) → Q σ' H) → t v σ H Q
end
section
variable {cl : Str → Option Addr} {K : PySem.W.Frag} {c : Fx} {B : Addr → Prop} {Ai Ai' Ai1 Ai2 : Nat → Addr → Prop} {ss ss' ss0 ss1 ss2 : Ss} {ρ ρ' : Env} {σ σ' σ1 : L2.St} {M H H' H1 H2 : Hp} {v : V} {d : Dt} {s : Sh} {A : Addr → Prop}
  {t ta tb te : TE} {e e' a b : EM Dt} {tt t1 t2 : TT} {c1 c2 : EM Bool} {tA : TA} {as : List AE} {vs : List V} {ds : List Dt} {f : Str} {u1 u2 : TS} {s1 s2 : SM} {g : TG} {gd : Dt → Env → Option Env} {D : Ends}
theorem XPost.kp {x : Ex} (h : Ext c.q B Ai H Ai1 H1) (hk : ∀ i, c.kp i = true → σ1[i]? = σ[i]?) (p : XPost cl K c B Ai σ H x ρ') : XPost cl K c B Ai1 σ1 H1 x ρ' :=
  fun cv dx σ' Ai' H' e R k => p cv dx σ' Ai' H' (h.trans e) R fun i hi => (k i hi).trans (hk i hi)
theorem SPost.ext {r : Sr} (h : Ext c.q B Ai H Ai1 H1) (hk : ∀ i, c.kp i = true → σ1[i]? = σ[i]?) (p : SPost cl K c B Ai ss σ H D r) : SPost cl K c B Ai1 ss σ1 H1 D r := by
  cases r with
  | nx ρ => exact fun σ' Ai' H' e R k => p σ' Ai' H' (h.trans e) R fun i hi => (k i hi).trans (hk i hi)
  | rt d ρ => exact fun v σ' Ai' H' e R k => p v σ' Ai' H' (h.trans e) R fun i hi => (k i hi).trans (hk i hi)
  | bk ρ => exact fun σ' Ai' H' e R k => p σ' Ai' H' (h.trans e) R fun i hi => (k i hi).trans (hk i hi)
  | ct ρ => exact fun σ' Ai' H' e R k => p σ' Ai' H' (h.trans e) R fun i hi => (k i hi).trans (hk i hi)
  | ex x ρ => exact XPost.kp h hk p
  | stuck => exact p
theorem SPost.ext0 {r : Sr} (h : Ext c.q B Ai H Ai1 H1) (p : SPost cl K c B Ai ss σ H D r) : SPost cl K c B Ai1 ss σ H1 D r := p.ext h fun _ _ => rfl
theorem SS.use (h : SS cl K c ss ss' u1 s1) (R : Rep cl K c.F B Ai ss ρ σ H) (p : SPost cl K c B Ai ss' σ H D (s1 ρ)) : u1 D σ H := h B Ai ρ σ H D R p
/-- less is held from here on -/
theorem ss_less (h : SS cl K c ss0 ss' u1 s1) (l : leS ss0 ss = true := by rfl) : SS cl K c ss ss' u1 s1 := fun B Ai ρ σ H D R p => by
  obtain ⟨Ai1, x1, R1, _⟩ := R.less l
  exact h.use R1 (p.ext0 x1)
theorem ss_post (h : SS cl K c ss ss0 u1 s1) (l : leS ss' ss0 = true := by rfl) : SS cl K c ss ss' u1 s1 := fun B Ai ρ σ H D R p => by
  refine h.use R ?_
  cases hr : s1 ρ with
  | nx ρ1 =>
    rw [hr] at p
    intro σ1 Ai1 H1 x1 R1 k1
    obtain ⟨Ai2, x2, R2, _⟩ := R1.less l
    exact p σ1 Ai2 H1 (x1.trans x2) R2 k1
  | rt d ρ1 => rw [hr] at p; exact p
  | bk ρ1 => rw [hr] at p; exact p
  | ct ρ1 => rw [hr] at p; exact p
  | ex x ρ1 => rw [hr] at p; exact p
  | stuck => rw [hr] at p; exact p
theorem ss_skip : SS cl K c ss ss tNext sSkip := fun B Ai ρ σ H D R p => p σ Ai H .refl R fun _ _ => rfl
theorem ss_seq (h1 : SS cl K c ss ss1 u1 s1) (h2 : SS cl K c ss1 ss' u2 s2) : SS cl K c ss ss' (tSeq u1 u2) (sSeq s1 s2) := fun B Ai ρ σ H D R p => by
  unfold sSeq at p
  refine h1.use (D := { D with nx := u2 D }) R ?_
  cases hr : s1 ρ with
  | nx ρ1 =>
    rw [hr] at p
    exact fun σ1 Ai1 H1 x1 R1 k1 => h2.use R1 (SPost.ext x1 k1 p)
  | rt d ρ1 => rw [hr] at p; exact p
  | bk ρ1 => rw [hr] at p; exact p
  | ct ρ1 => rw [hr] at p; exact p
  | ex x ρ1 => rw [hr] at p; exact p
  | stuck => rw [hr] at p; exact p
theorem set_ne {i : Nat} {v : Option V} {kp : Nat → Bool} (h : kp i = false) : ∀ j, kp j = true → (σ.set i v)[j]? = σ[j]? := fun j hj => by
  rw [List.getElem?_set_ne]
  rintro rfl
  rw [h] at hj
  cases hj
theorem pins_ne {i : Nat} {c : Fx} (h : (c.F.pins.map (·.1)).contains i = false) : ∀ q ∈ c.F.pins, q.1 ≠ i := fun q hq z => by
  subst z
  rw [List.contains_iff_mem.mpr (List.mem_map_of_mem hq)] at h
  cases h
theorem ss_set {i : Nat} (h : SE cl K c ss s te e) (hs : okSet ss i s ss' = true := by rfl) (hk : c.kp i = false := by rfl) (hp : (c.F.pins.map (·.1)).contains i = false := by rfl) : SS cl K c ss ss' (tAsg te (gName i)) (sSet i e) := fun B Ai ρ σ H D R p => by
  unfold sSet at p
  refine h.use R (fun d ρ1 e1 v Ai1 H1 x1 R1 o1 => ?_) (fun x ρ1 e1 => by rw [e1] at p; exact p) fun e1 => by rw [e1] at p; exact p
  rw [e1] at p
  obtain ⟨Ai2, x2, R2⟩ := R1.put o1 hs (pins_ne hp)
  exact p _ Ai2 H1 (x1.trans x2) R2 (set_ne hk)
theorem ss_if {cc : TT} (h1 : ST cl K c ss cc c1) (h2 : SS cl K c ss ss' u1 s1) (h3 : SS cl K c ss ss' u2 s2) : SS cl K c ss ss' (tIfS cc u1 u2) (sIf c1 s1 s2) := fun B Ai ρ σ H D R p => by
  unfold sIf at p
  refine h1.use R (fun k ρ1 e1 Ai1 H1 x1 R1 => ?_) (fun x ρ1 e1 => by rw [e1] at p; exact p) fun e1 => by rw [e1] at p; exact p
  simp only [e1, Er.go] at p
  cases k with
  | true => exact iteT (h2.use R1 (p.ext0 x1))
  | false => exact iteF (h3.use R1 (p.ext0 x1))
theorem ss_ret (h : SE cl K c ss c.rs te e) (l : leS c.sr ss = true := by rfl) : SS cl K c ss ss' (tRet te) (sRet e) := fun B Ai ρ σ H D R p => by
  unfold sRet at p
  refine h.use R (fun d ρ1 e1 v Ai1 H1 x1 R1 o1 => ?_) (fun x ρ1 e1 => by rw [e1] at p; exact p) fun e1 => by rw [e1] at p; exact p
  rw [e1] at p
  obtain ⟨Ai2, x2, R2, ea⟩ := R1.less l
  exact p v σ Ai2 H1 (x1.trans x2) R2 (fun _ _ => rfl) (by rw [ea]; exact o1.mono x2.same fun _ _ => rfl)
theorem ss_do (h : SE cl K c ss s te e) : SS cl K c ss ss (tDrop te) (sDo e) := fun B Ai ρ σ H D R p => by
  unfold sDo at p
  refine h.use R (fun d ρ1 e1 v Ai1 H1 x1 R1 o1 => ?_) (fun x ρ1 e1 => by rw [e1] at p; exact p) fun e1 => by rw [e1] at p; exact p
  rw [e1] at p
  exact p σ Ai1 H1 x1 R1 fun _ _ => rfl
end
section
variable (cl : Str → Option Addr) (K : PySem.W.Frag) (c : Fx)
/-- J walks xs, as long as what may be shared stands -/
def ItOk (M : Hp) (J : It) (xs : List Dt) : Prop := ∀ M2 H2, Same M M2 → Same M2 H2 → (∀ i, xs.length ≤ i → J.stop i H2) ∧
  ∀ (i : Nat) d, xs[i]? = some d → J.go i H2 ∧ ∀ x H3, J.yld i H2 x H3 → Res cl K M2 H2 x H3 d
def IPost (B : Addr → Prop) (Ai : Nat → Addr → Prop) (ss : Ss) (σ : L2.St) (H : Hp) (Q : It → Hp → Prop) : Er (List Dt) → Prop
  | .ok xs ρ' => ∀ J Ai' H', Ext c.q B Ai H Ai' H' → Rep cl K c.F B Ai' ss ρ' σ H' → ItOk cl K (MH B Ai' H') J xs → Q J H'
  | .ex e ρ' => XPost cl K c B Ai σ H e ρ'
  | .stuck => False
def SI (ss : Ss) (t : TI) (e : EM (List Dt)) : Prop := ∀ B Ai ρ σ H Q, Rep cl K c.F B Ai ss ρ σ H → IPost cl K c B Ai ss σ H Q (e ρ) → t σ H Q
end
section
variable {cl : Str → Option Addr} {K : PySem.W.Frag} {c : Fx} {B : Addr → Prop} {Ai Ai' Ai1 Ai2 : Nat → Addr → Prop} {ss ss' ss0 ss1 ss2 : Ss} {ρ ρ' : Env} {σ σ' σ1 : L2.St} {M H H' H1 H2 : Hp} {v : V} {d : Dt} {s : Sh} {A : Addr → Prop}
  {t ta tb te : TE} {e e' a b : EM Dt} {tt t1 t2 : TT} {c1 c2 : EM Bool} {tA : TA} {as : List AE} {vs : List V} {ds : List Dt} {f : Str} {u1 u2 : TS} {s1 s2 : SM} {g : TG} {gd : Dt → Env → Option Env} {D : Ends} {ti : TI} {ei : EM (List Dt)}
theorem drop_at {α : Type} {xs : List α} {i : Nat} {x : α} {r : List α} (h : xs.drop i = x :: r) : xs[i]? = some x ∧ xs.drop (i + 1) = r ∧ i < xs.length := by
  have hi : i < xs.length := by
    rcases Nat.lt_or_ge i xs.length with q | q
    · exact q
    · rw [List.drop_eq_nil_of_le q] at h; cases h
  rw [List.drop_eq_getElem_cons hi] at h
  obtain ⟨rfl, rfl⟩ := List.cons.inj h
  exact ⟨List.getElem?_eq_getElem hi, rfl, hi⟩
theorem sloop (hg : SG cl K { c with sl := ss } ss ss1 g gd) (hb : SS cl K { c with sl := ss } ss1 ss u1 s1) {J : It} {xs : List Dt} (R : Rep cl K c.F B Ai ss ρ σ H) (hJ : ItOk cl K (MH B Ai H) J xs) (p : SPost cl K c B Ai ss σ H D (sLoop gd s1 xs ρ)) :
    ∃ W : Nat → Nat → L2.St → Hp → Prop, (∃ m, W 0 m σ H) ∧ ∀ i m σ H, W i m σ H →
      (J.stop i H ∧ D.nx σ H) ∨ (J.go i H ∧ ∃ N : L2.St → Hp → Prop, (∀ σ' H', N σ' H' → ∃ m', m' < m ∧ W (i + 1) m' σ' H') ∧ ∀ x H', J.yld i H x H' → g x σ H' fun σ2 H2 => u1 { D with nx := N, ct := N, bk := D.nx } σ2 H2) := by
  refine ⟨fun i m σ' H' => ∃ Ai' ρ', m = (xs.drop i).length ∧ Ext c.q B Ai H Ai' H' ∧ Rep cl K c.F B Ai' ss ρ' σ' H' ∧ SPost cl K c B Ai' ss σ' H' D (sLoop gd s1 (xs.drop i) ρ'), ⟨_, Ai, ρ, rfl, .refl, R, p⟩, ?_⟩
  rintro i m σ1 H1 ⟨Ai1, ρ1, rfl, x1, R1, p1⟩
  obtain ⟨j1, j2⟩ := hJ (MH B Ai1 H1) H1 x1.same mask_same
  cases hd : xs.drop i with
  | nil =>
    rw [hd] at p1
    exact .inl ⟨j1 i (by have := List.drop_eq_nil_iff.mp hd; exact this), p1 σ1 Ai1 H1 .refl R1 fun _ _ => rfl⟩
  | cons x r =>
    rw [hd] at p1
    obtain ⟨e1, e2, hi⟩ := drop_at hd
    obtain ⟨q1, q2⟩ := j2 i x e1
    refine .inr ⟨q1, fun σ' H' => ∃ Ai' ρ', Ext c.q B Ai H Ai' H' ∧ Rep cl K c.F B Ai' ss ρ' σ' H' ∧ SPost cl K c B Ai' ss σ' H' D (sLoop gd s1 r ρ'), fun σ' H' ⟨Ai', ρ', y1, y2, y3⟩ => ⟨r.length, by simp, Ai', ρ', by rw [e2], y1, y2, by rw [e2]; exact y3⟩, fun v H2 hy => ?_⟩
    obtain ⟨Ai2, x2, R2, o2⟩ := R1.res (q2 v H2 hy)
    unfold sLoop at p1
    cases hgd : gd x ρ1 with
    | none => rw [hgd] at p1; exact p1.elim
    | some ρ2 =>
      rw [hgd] at p1
      refine hg B Ai2 ρ1 σ1 H2 v x ρ2 _ R2 o2.fzAt.1 hgd fun σ3 Ai3 x3 R3 k3 => hb.use R3 ?_
      have p3 : SPost cl K c B Ai3 ss σ3 H2 D ((s1 ρ2).turn (sLoop gd s1 r)) := p1.ext (x2.trans x3) k3
      have x03 := (x1.trans x2).trans x3
      cases hr : s1 ρ2 with
      | nx ρ4 => rw [hr] at p3; exact fun σ4 Ai4 H4 x4 R4 k4 => ⟨Ai4, ρ4, x03.trans x4, R4, p3.ext x4 k4⟩
      | ct ρ4 => rw [hr] at p3; exact fun σ4 Ai4 H4 x4 R4 k4 => ⟨Ai4, ρ4, x03.trans x4, R4, p3.ext x4 k4⟩
      | bk ρ4 => rw [hr] at p3; exact p3
      | rt d ρ4 => rw [hr] at p3; exact p3
      | ex y ρ4 => rw [hr] at p3; exact p3
      | stuck => rw [hr] at p3; exact p3
theorem ss_for (hi : SI cl K c ss ti ei) (hg : SG cl K { c with sl := ss } ss ss1 g gd) (hb : SS cl K { c with sl := ss } ss1 ss u1 s1) : SS cl K c ss ss (tFor ti g u1) (sFor ei gd s1) := fun B Ai ρ σ H D R p => by
  unfold sFor at p
  refine hi B Ai ρ σ H _ R ?_
  cases er : ei ρ with
  | ok xs ρ1 => rw [er] at p; exact fun J Ai1 H1 x1 R1 j1 => sloop hg hb R1 j1 (p.ext0 x1)
  | ex x ρ1 => rw [er] at p; exact p
  | stuck => rw [er] at p; exact p
theorem ss_while {cc : TT} {n : Nat} (hc : ST cl K { c with sl := ss } ss cc c1) (hb : SS cl K { c with sl := ss } ss ss u1 s1) : SS cl K c ss ss (tWhile cc u1) (sWhile c1 s1 n) := fun B Ai ρ σ H D R p => by
  refine ⟨fun m σ' H' => ∃ Ai' ρ', Ext c.q B Ai H Ai' H' ∧ Rep cl K c.F B Ai' ss ρ' σ' H' ∧ SPost cl K c B Ai' ss σ' H' D (sWhile c1 s1 m ρ'), ⟨n, Ai, ρ, .refl, R, p⟩, ?_⟩
  rintro m σ1 H1 ⟨Ai1, ρ1, x1, R1, p1⟩
  cases m with
  | zero => exact p1.elim
  | succ m =>
    unfold sWhile at p1
    refine ST.use hc R1 (fun k ρ2 e2 Ai2 H2 x2 R2 => ?_) (fun x ρ2 e2 => by rw [e2] at p1; exact p1) fun e2 => by rw [e2] at p1; exact p1
    simp only [e2, Er.go] at p1
    cases k with
    | false => exact iteF (p1 σ1 Ai2 H2 x2 R2 fun _ _ => rfl)
    | true =>
      rw [if_pos rfl] at p1
      refine iteT ⟨fun σ' H' => ∃ Ai' ρ', Ext c.q B Ai H Ai' H' ∧ Rep cl K c.F B Ai' ss ρ' σ' H' ∧ SPost cl K c B Ai' ss σ' H' D (sWhile c1 s1 m ρ'), fun σ' H' h => ⟨m, Nat.lt_succ_self m, h⟩, hb.use R2 ?_⟩
      have p3 : SPost cl K c B Ai2 ss σ1 H2 D ((s1 ρ2).turn (sWhile c1 s1 m)) := p1.ext0 x2
      have x03 := x1.trans x2
      cases hr : s1 ρ2 with
      | nx ρ4 => rw [hr] at p3; exact fun σ4 Ai4 H4 x4 R4 k4 => ⟨Ai4, ρ4, x03.trans x4, R4, p3.ext x4 k4⟩
      | ct ρ4 => rw [hr] at p3; exact fun σ4 Ai4 H4 x4 R4 k4 => ⟨Ai4, ρ4, x03.trans x4, R4, p3.ext x4 k4⟩
      | bk ρ4 => rw [hr] at p3; exact p3
      | rt d ρ4 => rw [hr] at p3; exact p3
      | ex y ρ4 => rw [hr] at p3; exact p3
      | stuck => rw [hr] at p3; exact p3
theorem ss_brk (l : leS c.sl ss = true := by rfl) : SS cl K c ss ss' tBreak sBrk := fun B Ai ρ σ H D R p => by
  obtain ⟨Ai1, x1, R1, _⟩ := R.less l
  exact p σ Ai1 H x1 R1 fun _ _ => rfl
theorem ss_cont (l : leS c.sl ss = true := by rfl) : SS cl K c ss ss' tCont sCont := fun B Ai ρ σ H D R p => by
  obtain ⟨Ai1, x1, R1, _⟩ := R.less l
  exact p σ Ai1 H x1 R1 fun _ _ => rfl
/-- targets -/
theorem sg_var {i : Nat} (hs : okSet ss i .fz ss' = true := by rfl) (hk : c.kp i = false := by rfl) (hp : (c.F.pins.map (·.1)).contains i = false := by rfl) : SG cl K c ss ss' (gName i) (gVar i) := fun B Ai ρ σ H v d ρ' Q R h e q => by
  cases e
  obtain ⟨Ai1, x1, R1, o1⟩ := R.res (.old h)
  obtain ⟨Ai2, x2, R2⟩ := R1.put o1 hs (pins_ne hp)
  exact q _ Ai2 (x1.trans x2) R2 (set_ne hk)
def SGs (cl : Str → Option Addr) (K : PySem.W.Frag) (c : Fx) (ss ss' : Ss) (t : TGs) (g : List (Dt → Env → Option Env)) : Prop := ∀ B Ai ρ σ H vs ds ρ' (Q : L2.St → Hp → Prop), Rep cl K c.F B Ai ss ρ σ H → vs.length = ds.length → (∀ (i : Nat) v d, vs[i]? = some v → ds[i]? = some d → At cl K (MH B Ai H) v d) → gAll g ds ρ = some ρ' →
  (∀ σ' Ai', Ext c.q B Ai H Ai' H → Rep cl K c.F B Ai' ss' ρ' σ' H → (∀ i, c.kp i = true → σ'[i]? = σ[i]?) → Q σ' H) → t vs σ H Q
theorem sg_nil : SGs cl K c ss ss gNil [] := fun B Ai ρ σ H vs ds ρ' Q R hl h e q => by
  cases ds with
  | nil =>
    cases e
    exact ⟨List.length_eq_zero_iff.mp hl, q σ Ai .refl R fun _ _ => rfl⟩
  | cons d ds => cases e
theorem sg_cons {tg : TG} {tgs : TGs} {gs : List (Dt → Env → Option Env)} (h1 : SG cl K c ss ss1 tg gd) (h2 : SGs cl K c ss1 ss' tgs gs) : SGs cl K c ss ss' (gCons tg tgs) (gd :: gs) := fun B Ai ρ σ H vs ds ρ' Q R hl h e q => by
  cases ds with
  | nil => cases e
  | cons d ds =>
    cases vs with
    | nil => cases hl
    | cons v vs =>
      unfold gAll at e
      cases e1 : gd d ρ with
      | none => rw [e1] at e; cases e
      | some ρ1 =>
        rw [e1] at e
        refine ⟨v, vs, rfl, h1 B Ai ρ σ H v d ρ1 _ R (h 0 v d rfl rfl) e1 fun σ1 Ai1 x1 R1 k1 => ?_⟩
        exact h2 B Ai1 ρ1 σ1 H vs ds ρ' Q R1 (by simpa using hl) (fun i v' d' a b => (h (i + 1) v' d' (by simpa using a) (by simpa using b)).mono x1.same) e fun σ2 Ai2 x2 R2 k2 => q σ2 Ai2 (x1.trans x2) R2 fun i hi => (k2 i hi).trans (k1 i hi)
theorem gAll_len : ∀ {gs : List (Dt → Env → Option Env)} {ds : List Dt} {ρ ρ' : Env}, gAll gs ds ρ = some ρ' → ds.length = gs.length
  | [], [], _, _, _ => rfl
  | [], _ :: _, _, _, h => nomatch h
  | _ :: _, [], _, _, h => nomatch h
  | g :: gs, d :: ds, ρ, ρ', h => by
    unfold gAll at h
    cases e : g d ρ with
    | none => rw [e] at h; cases h
    | some ρ1 => rw [e] at h; simp [gAll_len (gs := gs) (ds := ds) h]
theorem sg_tup {tgs : TGs} {gs : List (Dt → Env → Option Env)} {n : Nat} (h : SGs cl K c ss ss' tgs gs) (hn : gs.length = n := by rfl) : SG cl K c ss ss' (gTup K n tgs) (gTupD gs) := fun B Ai ρ σ H v d ρ' Q R ha e q => by
  unfold gTupD at e
  cases d with
  | tup ds =>
    obtain ⟨a, xs, rfl, h1, h2, h3⟩ := (Bor.at ha (H := H)).tup mask_same
    exact ⟨a, xs, rfl, h1, by rw [h2, gAll_len e, hn], h B Ai ρ σ H xs ds ρ' Q R h2 h3 e q⟩
  | _ => cases e
theorem ss_un (h : SE cl K c ss .fz te e) (hg : SG cl K c ss ss' g gd) : SS cl K c ss ss' (tAsg te g) (sUn e gd) := fun B Ai ρ σ H D R p => by
  unfold sUn at p
  refine h.use R (fun d ρ1 e1 v Ai1 H1 x1 R1 o1 => ?_) (fun x ρ1 e1 => by rw [e1] at p; exact p) fun e1 => by rw [e1] at p; exact p
  simp only [e1, Er.go] at p
  cases e2 : gd d ρ1 with
  | none => rw [e2] at p; exact p.elim
  | some ρ2 =>
    rw [e2] at p
    exact hg B Ai1 ρ1 σ H1 v d ρ2 _ R1 o1.fzAt.1 e2 fun σ2 Ai2 x2 R2 k2 => p σ2 Ai2 H1 (x1.trans x2) R2 k2
/-- walks -/
def iOf (as : List AE) : EM (List Dt) := fun ρ => (eArgs as ρ).bind fun ds ρ1 => match ds with | [d] => (match itD d with | some l => .ok l ρ1 | none => .stuck) | _ => .stuck
def tupI : Dt → Option (List Dt) | .tup l => some l | _ => none
def iLst (e : EM Dt) : EM (List Dt) := fun ρ => (e ρ).bind fun d ρ1 => match lstI d with | some l => .ok l ρ1 | none => .stuck
def iTupD (e : EM Dt) : EM (List Dt) := fun ρ => (e ρ).bind fun d ρ1 => match tupI d with | some l => .ok l ρ1 | none => .stuck
theorem si_list (h : SE cl K c ss .fz te e) : SI cl K c ss (iList K te) (iLst e) := fun B Ai ρ σ H Q R p => by
  unfold iLst at p
  refine h.use R (fun d ρ1 e1 v Ai1 H1 x1 R1 o1 => ?_) (fun x ρ1 e1 => by rw [e1] at p; exact p) fun e1 => by rw [e1] at p; exact p
  simp only [e1, Er.bind] at p
  cases hl : lstI d with
  | none => rw [hl] at p; exact p.elim
  | some l =>
    rw [hl] at p
    obtain ⟨a, xs, rfl, h1, h2, h3⟩ := (Bor.at o1.fzAt.1 (H := MH B Ai1 H1)).lsts (Same.refl _) hl
    refine ⟨a, rfl, ⟨xs, mask_same.seq h1⟩, p _ Ai1 H1 x1 R1 fun M2 H2 s1 s2 => ⟨fun i hi => ⟨xs, s2.seq (s1.seq h1), by omega⟩, fun i d ed => ?_⟩⟩
    have hi : i < xs.length := by rw [h2]; exact (List.getElem?_eq_some_iff.mp ed).1
    refine ⟨⟨xs, xs[i], s2.seq (s1.seq h1), List.getElem?_eq_getElem hi⟩, fun x H3 hy => ?_⟩
    obtain ⟨rfl, hy⟩ := hy
    exact .old ((h3 i x d (hy xs (s2.seq (s1.seq h1))) ed).mono s1)
theorem si_tup (h : SE cl K c ss .fz te e) : SI cl K c ss (iTup K te) (iTupD e) := fun B Ai ρ σ H Q R p => by
  unfold iTupD at p
  refine h.use R (fun d ρ1 e1 v Ai1 H1 x1 R1 o1 => ?_) (fun x ρ1 e1 => by rw [e1] at p; exact p) fun e1 => by rw [e1] at p; exact p
  simp only [e1, Er.bind] at p
  cases d with
  | tup l =>
    cases o1.fzAt.1 with
    | @tup a xs _ h1 h2 h3 =>
      refine ⟨a, rfl, ⟨xs, sqt_same mask_same h1⟩, p _ Ai1 H1 x1 R1 fun M2 H2 s1 s2 => ⟨fun i hi => ⟨xs, sqt_same s2 (sqt_same s1 h1), by omega⟩, fun i d ed => ?_⟩⟩
      have hi : i < xs.length := by rw [h2]; exact (List.getElem?_eq_some_iff.mp ed).1
      refine ⟨⟨xs, xs[i], sqt_same s2 (sqt_same s1 h1), List.getElem?_eq_getElem hi⟩, fun x H3 hy => ?_⟩
      obtain ⟨rfl, hy⟩ := hy
      exact .old ((h3 i x d (hy xs (sqt_same s2 (sqt_same s1 h1))) ed).mono s1)
  | _ => exact p.elim
/-- range(n), range(a, b): the numbers -/
def rngL (a : Int) : Nat → List Dt
  | 0 => []
  | n + 1 => .int a :: rngL (a + 1) n
theorem rngL_len {n : Nat} : ∀ {a : Int}, (rngL a n).length = n := by
  induction n with
  | zero => intro a; rfl
  | succ n ih => intro a; simp [rngL, ih]
theorem rngL_at : ∀ {n : Nat} {a : Int} {i : Nat} {d : Dt}, (rngL a n)[i]? = some d → d = .int (a + i) ∧ i < n
  | 0, a, i, d, h => by simp [rngL] at h
  | n + 1, a, 0, d, h => by simp [rngL] at h; exact ⟨by rw [← h]; simp, by omega⟩
  | n + 1, a, i + 1, d, h => by
    have h' : (rngL (a + 1) n)[i]? = some d := by simpa [rngL] using h
    obtain ⟨e, hi⟩ := rngL_at h'
    exact ⟨by rw [e, show a + 1 + (i : Int) = a + ((i + 1 : Nat) : Int) by omega], by omega⟩
def inR (j : Int) : Bool := decide (-4611686018427387904 ≤ j) && decide (j < 4611686018427387904)
def rng1D : List Dt → Option (List Dt) | [.int n] => if inR n then some (rngL 0 n.toNat) else none | _ => none
def rng2D : List Dt → Option (List Dt) | [.int a, .int b] => if inR a && inR b then some (rngL a (b - a).toNat) else none | _ => none
def iOpA (f : List Dt → Option (List Dt)) (as : List AE) : EM (List Dt) := fun ρ => (eArgs as ρ).bind fun ds ρ1 => match f ds with | some l => .ok l ρ1 | none => .stuck
theorem it_rng {lo : Int} {n : Nat} : ItOk cl K M (Itr lo n) (rngL lo n) := fun M2 H2 _ _ => ⟨fun i hi => by rw [rngL_len] at hi; exact hi, fun i d e => by
  obtain ⟨rfl, hi⟩ := rngL_at e
  exact ⟨hi, fun x H3 ⟨e1, e2⟩ => by rw [e1, e2]; exact .old (.int _)⟩⟩
theorem inR_at {j : Int} (h : inR j = true) : -(2 ^ 62) ≤ j ∧ j < 2 ^ 62 := by
  unfold inR at h
  simp only [Bool.and_eq_true, decide_eq_true_eq] at h
  omega
theorem si_rng1 (ha : SA cl K c ss tA as) (hf : flatAs ss as = true := by rfl) : SI cl K c ss (iRng1 tA) (iOpA rng1D as) := fun B Ai ρ σ H Q R p => by
  unfold iOpA at p
  refine ha.use R (fun ds ρ1 e1 vs Ai1 H1 x1 R1 ok => ?_) (fun x ρ1 e1 => by rw [e1] at p; exact p) fun e1 => by rw [e1] at p; exact p
  simp only [e1, Er.bind] at p
  cases e2 : rng1D ds with
  | none => rw [e2] at p; exact p.elim
  | some l =>
    rw [e2] at p
    unfold rng1D at e2
    split at e2
    · rename_i n
      split at e2
      · rename_i hn
        cases e2
        obtain ⟨v, rfl, h⟩ := (ok.bors R1 hf).one
        obtain ⟨h1, h2⟩ := inR_at hn
        exact ⟨n, by rw [h.int], h1, h2, p _ Ai1 H1 x1 R1 it_rng⟩
      · cases e2
    · cases e2
theorem si_rng2 (ha : SA cl K c ss tA as) (hf : flatAs ss as = true := by rfl) : SI cl K c ss (iRng2 tA) (iOpA rng2D as) := fun B Ai ρ σ H Q R p => by
  unfold iOpA at p
  refine ha.use R (fun ds ρ1 e1 vs Ai1 H1 x1 R1 ok => ?_) (fun x ρ1 e1 => by rw [e1] at p; exact p) fun e1 => by rw [e1] at p; exact p
  simp only [e1, Er.bind] at p
  cases e2 : rng2D ds with
  | none => rw [e2] at p; exact p.elim
  | some l =>
    rw [e2] at p
    unfold rng2D at e2
    split at e2
    · rename_i n m
      split at e2
      · rename_i hn
        cases e2
        simp only [Bool.and_eq_true] at hn
        obtain ⟨v, w, rfl, h, h'⟩ := (ok.bors R1 hf).two
        exact ⟨n, m, by rw [h.int, h'.int], ⟨(inR_at hn.1).1, (inR_at hn.1).2, (inR_at hn.2).1, (inR_at hn.2).2⟩, p _ Ai1 H1 x1 R1 it_rng⟩
      · cases e2
    · cases e2
end
/-! ### calls -/
/-- the owned arguments behind a body -/
def outsOf (ps : Ss) (k : Nat) (ρ : Env) : Env := (List.range k).map fun i => if sh ps i = .fz then none else gv ρ i
inductive Fq where
  | ok (d : Dt) (outs : Env) | ex (e : Ex) (outs : Env) | stuck
/-- a def: the parameters that it holds at its start, behind it, behind an error; how its value is held; how many parameters are told behind it; how many parameters, names -/
structure Sg where
  ps : Ss
  po : Ss
  px : Ss
  rs : Sh
  k : Nat
  ar : Nat
  n : Nat
def endF (g : Sg) : Sr → Fq
  | .rt d ρ => .ok d (outsOf g.po g.k ρ)
  | .nx ρ => match g.rs with | .fz => .ok .non (outsOf g.po g.k ρ) | _ => .stuck
  | .ex e ρ => .ex e (outsOf g.px g.k ρ)
  | _ => .stuck
def runF (g : Sg) (body : SM) (ds : List Dt) : Fq := if ds.length = g.ar then endF g (body (ds.map some ++ List.replicate (g.n - g.ar) none)) else .stuck
/-- what a call leaves in the caller's names -/
def putO : List AE → Env → Env → Env
  | [], _, ρ => ρ
  | .own i :: as, o :: outs, ρ => putO as outs (ρ.set i o)
  | .own i :: as, [], ρ => putO as [] (ρ.set i none)
  | _ :: as, outs, ρ => putO as outs.tail ρ
def eCall (f : List Dt → Fq) (as : List AE) (dds : List Dt) : EM Dt := fun ρ => (eArgs as ρ).bind fun ds ρ1 => match f (ds ++ dds) with
  | .ok d outs => .ok d (putO as outs ρ1)
  | .ex e outs => .ex e (putO as outs ρ1)
  | .stuck => .stuck
def outEnv (n : Nat) (outs : Env) : Env := (outs ++ List.replicate n none).take n
def spD (cl : Str → Option Addr) (K : PySem.W.Frag) (g : Sg) (f : List Dt → Fq) : Sp := fun vs H Q E => ∃ B Ai ds, Rep cl K .top B Ai g.ps (ds.map some) (vs.map some) H ∧ ds.length = vs.length ∧ match f ds with
  | .ok d outs => ∀ v Ai' H', Ext false B Ai H Ai' H' → Rep cl K .top B Ai' g.po (outEnv vs.length outs) (vs.map some) H' → Own cl K (MH B Ai' H') H' g.rs v d (Ai' vs.length) → Q v H'
  | .ex e outs => ∀ cv dx Ai' H', Ext false B Ai H Ai' H' → Rep cl K .top B Ai' g.px (outEnv vs.length outs) (vs.map some) H' → XAt cl K (MH B Ai' H') e cv dx → E cv dx H'
  | .stuck => False
def ownIx (as : List AE) (k : Nat) : Option Nat := match as[k]? with | some (.own i) => some i | _ => none
/-- the arguments suit the parameters: what is held is held by names, each once -/
def okArgs (ss ps : Ss) (as : List AE) : Bool :=
  (List.range as.length).all (fun k => match as[k]? with | some (.own i) => sh ps k == sh ss i | some (.val _) => sh ps k == .fz | _ => false) &&
  (List.range as.length).all (fun k => (List.range as.length).all fun l => k == l || ownIx as k == none || ownIx as k != ownIx as l) && ps.all (fun p => decide (p.1 < as.length) || sh ps p.1 == .fz)
/-- how the names are held behind a call -/
def okBack (ss ss' po : Ss) (as : List AE) : Bool :=
  (List.range as.length).all (fun k => match ownIx as k with | some i => sh ss' i == sh po k | none => true) &&
  ss.all (fun p => (List.range as.length).any (fun k => ownIx as k == some p.1) || sh ss' p.1 == sh ss p.1) && ss'.all (fun p => (List.range as.length).any (fun k => ownIx as k == some p.1) || sh ss' p.1 == sh ss p.1)
def ArgsP (ss ps : Ss) (as : List AE) : Prop := (∀ k i, ownIx as k = some i → sh ps k = sh ss i) ∧ (∀ k, ownIx as k = none → sh ps k = .fz) ∧ (∀ k l i, ownIx as k = some i → ownIx as l = some i → k = l) ∧ (∀ (k i : Nat) (cs : List Str) (f : Str), as[k]? ≠ some (AE.fld cs i f))
def BackP (ss ss' po : Ss) (as : List AE) : Prop := (∀ k i, ownIx as k = some i → sh ss' i = sh po k) ∧ ∀ i, (∀ k, ownIx as k ≠ some i) → sh ss' i = sh ss i
section
variable {cl : Str → Option Addr} {K : PySem.W.Frag} {c : Fx} {B : Addr → Prop} {Ai Ai' Ai1 Ai2 : Nat → Addr → Prop} {ss ss' ps : Ss} {ρ ρ' : Env} {σ σ' σ1 : L2.St} {M H H' H1 H2 : Hp} {v : V} {d : Dt} {s rs : Sh} {A : Addr → Prop}
  {t ta tb te : TE} {e e' a b : EM Dt} {tA : TA} {as : List AE} {vs dvs : List V} {ds dds : List Dt} {f : List Dt → Fq}
theorem okArgs_at (h : okArgs ss ps as = true) : (∀ k i, ownIx as k = some i → sh ps k = sh ss i) ∧ (∀ k, ownIx as k = none → sh ps k = .fz) ∧ (∀ k l i, ownIx as k = some i → ownIx as l = some i → k = l) ∧ (∀ (k i : Nat) (cs : List Str) (f : Str), as[k]? ≠ some (AE.fld cs i f)) := by
  unfold okArgs at h
  simp only [Bool.and_eq_true, List.all_eq_true, List.mem_range] at h
  obtain ⟨⟨h1, h2⟩, h3⟩ := h
  have lt : ∀ {k i}, ownIx as k = some i → k < as.length := fun {k i} e => by
    unfold ownIx at e
    rcases Nat.lt_or_ge k as.length with q | q
    · exact q
    · rw [List.getElem?_eq_none q] at e; cases e
  refine ⟨fun k i e => ?_, fun k e => ?_, fun k l i e1 e2 => ?_, fun k i cs f e => ?_⟩
  · have := h1 k (lt e)
    unfold ownIx at e
    split at e
    · rename_i j ej
      cases e
      rw [ej] at this
      simpa using this
    · cases e
  · rcases Nat.lt_or_ge k as.length with q | q
    · have := h1 k q
      unfold ownIx at e
      split at e
      · cases e
      · rename_i hn
        split at this
        · rename_i j ej; exact absurd ej (hn j)
        · simpa using this
        · cases this
    · by_cases z : ∃ p ∈ ps, p.1 = k
      · obtain ⟨p, hp, rfl⟩ := z
        have := h3 p hp
        simp only [Bool.or_eq_true, decide_eq_true_eq, beq_iff_eq] at this
        exact this.resolve_left (by omega)
      · exact sh_none fun p hp zz => z ⟨p, hp, zz⟩
  · have := h2 k (lt e1) l (lt e2)
    simp only [Bool.or_eq_true, beq_iff_eq, bne_iff_ne] at this
    rcases this with (q | q) | q
    · exact q
    · rw [q] at e1; cases e1
    · rw [e1, e2] at q; exact absurd rfl q
  · have hk : k < as.length := (List.getElem?_eq_some_iff.mp e).1
    have := h1 k hk
    rw [e] at this
    cases this
theorem okBack_at {po : Ss} (h : okBack ss ss' po as = true) : (∀ k i, ownIx as k = some i → sh ss' i = sh po k) ∧ ∀ i, (∀ k, ownIx as k ≠ some i) → sh ss' i = sh ss i := by
  unfold okBack at h
  simp only [Bool.and_eq_true, List.all_eq_true, List.mem_range] at h
  obtain ⟨⟨h1, h2⟩, h3⟩ := h
  refine ⟨fun k i e => ?_, fun i hi => ?_⟩
  · have hk : k < as.length := by
      unfold ownIx at e
      rcases Nat.lt_or_ge k as.length with q | q
      · exact q
      · rw [List.getElem?_eq_none q] at e; cases e
    have := h1 k hk
    rw [e] at this
    simpa using this
  · have no : ∀ {j}, i = j → (List.range as.length).any (fun k => ownIx as k == some j) = false := fun {j} z => by
      subst z
      rw [List.any_eq_false]
      intro k _
      simpa using hi k
    by_cases e : ∃ p ∈ ss, p.1 = i
    · obtain ⟨p, hp, rfl⟩ := e
      have := h2 p hp
      simp only [Bool.or_eq_true, beq_iff_eq] at this
      exact this.resolve_left (by rw [no rfl]; decide)
    · by_cases e' : ∃ p ∈ ss', p.1 = i
      · obtain ⟨p, hp, rfl⟩ := e'
        have := h3 p hp
        simp only [Bool.or_eq_true, beq_iff_eq] at this
        exact this.resolve_left (by rw [no rfl]; decide)
      · rw [sh_none fun p hp z => e ⟨p, hp, z⟩, sh_none fun p hp z => e' ⟨p, hp, z⟩]
theorem AllOk.at {k : Nat} {a : AE} (h : AllOk cl K M H σ ρ as vs ds) (e : as[k]? = some a) : ∃ v d, vs[k]? = some v ∧ ds[k]? = some d ∧ AOk cl K M H σ ρ a v d := by
  induction h generalizing k with
  | nil => simp at e
  | cons ha hr ih =>
    cases k with
    | zero => simp at e; subst e; exact ⟨_, _, rfl, rfl, ha⟩
    | succ k => simpa using ih (by simpa using e)
theorem AllOk.len (h : AllOk cl K M H σ ρ as vs ds) : vs.length = as.length ∧ ds.length = as.length := by
  induction h with
  | nil => exact ⟨rfl, rfl⟩
  | cons _ _ ih => simp [ih.1, ih.2]
theorem putO_len : ∀ {as : List AE} {outs ρ : Env}, (putO as outs ρ).length = ρ.length
  | [], _, _ => rfl
  | .own i :: as, o :: outs, ρ => by unfold putO; rw [putO_len, List.length_set]
  | .own i :: as, [], ρ => by unfold putO; rw [putO_len, List.length_set]
  | .val e :: as, outs, ρ => by unfold putO; rw [putO_len]
  | .fld cs i f :: as, outs, ρ => by unfold putO; rw [putO_len]
theorem ownIx_succ {a : AE} {k : Nat} : ownIx (a :: as) (k + 1) = ownIx as k := by unfold ownIx; simp
theorem putO_at {j : Nat} : ∀ {as : List AE} {outs ρ : Env} {d : Dt}, (putO as outs ρ)[j]? = some (some d) →
    (∃ k, ownIx as k = some j ∧ outs[k]? = some (some d)) ∨ ((∀ k, ownIx as k ≠ some j) ∧ ρ[j]? = some (some d))
  | [], outs, ρ, d, h => .inr ⟨fun k z => by unfold ownIx at z; simp at z, h⟩
  | .own i :: as, o :: outs, ρ, d, h => by
    unfold putO at h
    rcases putO_at h with ⟨k, h1, h2⟩ | ⟨h1, h2⟩
    · exact .inl ⟨k + 1, by rw [ownIx_succ]; exact h1, by simpa using h2⟩
    · by_cases hij : i = j
      · subst hij
        have hl : i < ρ.length := by
          have := (List.getElem?_eq_some_iff.mp h2).1
          simpa using this
        rw [List.getElem?_set_self hl] at h2
        exact .inl ⟨0, rfl, by simpa using h2⟩
      · rw [List.getElem?_set_ne hij] at h2
        refine .inr ⟨fun k => ?_, h2⟩
        cases k with
        | zero => exact fun z => hij (Option.some.inj z)
        | succ k => rw [ownIx_succ]; exact h1 k
  | .own i :: as, [], ρ, d, h => by
    unfold putO at h
    rcases putO_at h with ⟨k, h1, h2⟩ | ⟨h1, h2⟩
    · simp at h2
    · by_cases hij : i = j
      · subst hij
        have hl : i < ρ.length := by
          have := (List.getElem?_eq_some_iff.mp h2).1
          simpa using this
        rw [List.getElem?_set_self hl] at h2
        simp at h2
      · rw [List.getElem?_set_ne hij] at h2
        refine .inr ⟨fun k => ?_, h2⟩
        cases k with
        | zero => exact fun z => hij (Option.some.inj z)
        | succ k => rw [ownIx_succ]; exact h1 k
  | .val e :: as, outs, ρ, d, h => by
    unfold putO at h
    rcases putO_at h with ⟨k, h1, h2⟩ | ⟨h1, h2⟩
    · exact .inl ⟨k + 1, by rw [ownIx_succ]; exact h1, by cases outs with | nil => simp at h2 | cons o outs => simpa using h2⟩
    · refine .inr ⟨fun k => ?_, h2⟩
      cases k with
      | zero => exact fun z => nomatch z
      | succ k => rw [ownIx_succ]; exact h1 k
  | .fld cs i f :: as, outs, ρ, d, h => by
    unfold putO at h
    rcases putO_at h with ⟨k, h1, h2⟩ | ⟨h1, h2⟩
    · exact .inl ⟨k + 1, by rw [ownIx_succ]; exact h1, by cases outs with | nil => simp at h2 | cons o outs => simpa using h2⟩
    · refine .inr ⟨fun k => ?_, h2⟩
      cases k with
      | zero => exact fun z => nomatch z
      | succ k => rw [ownIx_succ]; exact h1 k
/-- constants -/
def Consts (cl : Str → Option Addr) (K : PySem.W.Frag) (dvs : List V) (dds : List Dt) : Prop := dvs.length = dds.length ∧ ∀ M (i : Nat) v d, dvs[i]? = some v → dds[i]? = some d → At cl K M v d
theorem consts_nil : Consts cl K [] [] := ⟨rfl, fun _ i v d h => by simp at h⟩
theorem consts_cons (h : ∀ M, At cl K M v d) (r : Consts cl K dvs dds) : Consts cl K (v :: dvs) (d :: dds) := ⟨by simp [r.1], fun M i v' d' h1 h2 => by
  cases i with
  | zero => simp at h1 h2; rw [← h1, ← h2]; exact h M
  | succ i => exact r.2 M i v' d' (by simpa using h1) (by simpa using h2)⟩
def bcOf (B : Addr → Prop) (Ai : Nat → Addr → Prop) (as : List AE) : Addr → Prop := fun a => B a ∨ ∃ i, Ai i a ∧ ∀ k, ownIx as k ≠ some i
def acOf (Ai : Nat → Addr → Prop) (as : List AE) : Nat → Addr → Prop := fun k a => ∃ i, ownIx as k = some i ∧ Ai i a
theorem mo_call : MO (bcOf B Ai as) (acOf Ai as) = MO B Ai := by
  funext a
  refine propext ⟨fun h => ?_, fun h => ?_⟩
  · rcases h with (h | ⟨i, h, _⟩) | ⟨k, i, _, h⟩
    · exact .inl h
    · exact .inr ⟨i, h⟩
    · exact .inr ⟨i, h⟩
  · rcases h with h | ⟨i, h⟩
    · exact .inl (.inl h)
    · by_cases z : ∃ k, ownIx as k = some i
      · obtain ⟨k, hk⟩ := z
        exact .inr ⟨k, i, hk, h⟩
      · exact .inl (.inr ⟨i, h, fun k hk => z ⟨k, hk⟩⟩)
/-- the callee's rows -/
theorem call_rep (hk : ArgsP ss ps as) (hd : Consts cl K dvs dds) (R : Rep cl K c.F B Ai ss ρ σ H) (ok : AllOk cl K (MH B Ai H) H σ ρ as vs ds) :
    Rep cl K .top (bcOf B Ai as) (acOf Ai as) ps ((ds ++ dds).map some) ((vs ++ dvs).map some) H := by
  obtain ⟨k1, k2, k3, k4⟩ := hk
  obtain ⟨l1, l2⟩ := ok.len
  have hM : MH (bcOf B Ai as) (acOf Ai as) H = MH B Ai H := by unfold MH; rw [mo_call]
  refine ⟨by simp [l1, l2, hd.1], fun k d e => ?_, fun k l a ⟨i, h1, h2⟩ ⟨j, h3, h4⟩ => ?_, fun k a ⟨i, h1, h2⟩ z => ?_, fun k a ⟨i, h1, h2⟩ => R.al i a h2, fun a z => z.elim (R.hb a) fun ⟨i, h, _⟩ => R.al i a h, True.intro, fun _ hq => nomatch hq⟩
  · rw [hM]
    rw [List.getElem?_map] at e
    have e' : (ds ++ dds)[k]? = some d := by
      cases q : (ds ++ dds)[k]? with
      | none => rw [q] at e; cases e
      | some y => rw [q] at e; simp at e; rw [e]
    rcases Nat.lt_or_ge k as.length with hlt | hge
    · obtain ⟨v, d', q1, q2, q3⟩ := ok.at (List.getElem?_eq_getElem hlt)
      rw [List.getElem?_append_left (by omega), q2] at e'
      cases e'
      refine ⟨v, by rw [List.getElem?_map, List.getElem?_append_left (by omega), q1]; rfl, ?_⟩
      have hx : as[k]? = some as[k] := List.getElem?_eq_getElem hlt
      generalize as[k] = x at q3 hx
      cases x with
      | val w =>
        have hn : ownIx as k = none := by unfold ownIx; rw [hx]
        rw [k2 k hn]
        exact .fz q3 fun a ⟨i, h1, _⟩ => by rw [hn] at h1; cases h1
      | own i =>
        have hn : ownIx as k = some i := by unfold ownIx; rw [hx]
        obtain ⟨v', r1, r2⟩ := R.row i d (gv_some q3.2)
        rw [q3.1] at r1
        cases r1
        rw [k1 k i hn, show acOf Ai as k = Ai i by funext a; exact propext ⟨fun ⟨j, h1, h2⟩ => by rw [hn] at h1; cases h1; exact h2, fun h => ⟨i, hn, h⟩⟩]
        exact r2
      | fld cs i f => exact absurd hx (k4 k i cs f)
    · have hn : ownIx as k = none := by unfold ownIx; rw [List.getElem?_eq_none hge]
      rw [List.getElem?_append_right (by omega)] at e'
      have hj : k - ds.length < dvs.length := by rw [hd.1]; exact (List.getElem?_eq_some_iff.mp e').1
      have ev : dvs[k - ds.length]? = some dvs[k - ds.length] := List.getElem?_eq_getElem hj
      refine ⟨dvs[k - ds.length], by rw [List.getElem?_map, List.getElem?_append_right (by omega), show k - vs.length = k - ds.length by omega, ev]; rfl, ?_⟩
      rw [k2 k hn]
      exact .fz (hd.2 _ _ _ _ ev e') fun a ⟨i, h1, _⟩ => by rw [hn] at h1; cases h1
  · have := R.dj i j a h2 h4
    subst this
    exact k3 k l i h1 h3
  · rcases z with z | ⟨j, z, zk⟩
    · exact R.nb i a h2 z
    · have := R.dj i j a h2 z
      subst this
      exact zk k h1
theorem val_ix0 (h : valAs as = true) : ∀ k, ownIx as k = none := by
  induction as with
  | nil => intro k; unfold ownIx; simp
  | cons x r ih =>
    intro k
    cases x with
    | val e =>
      cases k with
      | zero => rfl
      | succ k => rw [ownIx_succ]; exact ih h k
    | own i => cases h
    | fld cs i f => cases h
theorem val_ix (h : (!c.q || valAs as) = true) (hq : c.q = true) : ∀ k, ownIx as k = none := by
  rw [hq] at h
  exact val_ix0 (by simpa using h)
theorem Ext.fq (hq : c.q = false) (x : Ext false B Ai H Ai1 H1) : Ext c.q B Ai H Ai1 H1 := by rw [hq]; exact x
/-- the caller's rows behind the call -/
theorem call_back {po : Ss} (hqn : c.q = true → ∀ k, ownIx as k = none) (hk : ArgsP ss ps as) (hko : BackP ss ss' po as) {n : Nat} {outs : Env} {Ac : Nat → Addr → Prop} {vs' : List V} (hn : vs'.length = n) (hv : vs' = vs ++ dvs) (R : Rep cl K c.F B Ai ss ρ σ H) (ok : AllOk cl K (MH B Ai H) H σ ρ as vs ds)
    (x : Ext false (bcOf B Ai as) (acOf Ai as) H Ac H') (R' : Rep cl K .top (bcOf B Ai as) Ac po (outEnv n outs) (vs'.map some) H') :
    ∃ Ai', Ext c.q B Ai H Ai' H' ∧ Rep cl K c.F B Ai' ss' (putO as outs ρ) σ H' ∧ Ai' σ.length = Ac n ∧ Same (MH (bcOf B Ai as) Ac H') (MH B Ai' H') := by
  obtain ⟨k1, k2, k3, k4⟩ := hk
  obtain ⟨b1, b2⟩ := hko
  obtain ⟨l1, l2⟩ := ok.len
  have klt : ∀ {k i}, ownIx as k = some i → k < as.length := fun {k i} e => by
    unfold ownIx at e
    rcases Nat.lt_or_ge k as.length with q | q
    · exact q
    · rw [List.getElem?_eq_none q] at e; cases e
  have σk : ∀ {k i}, ownIx as k = some i → ∃ v, vs[k]? = some v ∧ σ[i]? = some (some v) := fun {k i} e => by
    have hlt := klt e
    obtain ⟨v, d', q1, q2, q3⟩ := ok.at (List.getElem?_eq_getElem hlt)
    have hx : as[k]? = some (as[k]'(klt e)) := List.getElem?_eq_getElem (klt e)
    generalize as[k]'(klt e) = y at q3 hx
    unfold ownIx at e
    rw [hx] at e
    cases y with
    | own j => cases e; exact ⟨v, q1, q3.1⟩
    | val _ => cases e
    | fld _ _ _ => cases e
  have ilt : ∀ {k i}, ownIx as k = some i → i < σ.length := fun e => by
    obtain ⟨v, _, h⟩ := σk e
    exact (List.getElem?_eq_some_iff.mp h).1
  obtain ⟨Aj, eAj⟩ : ∃ Aj : Nat → Addr → Prop, Aj = fun i a => (∃ k, ownIx as k = some i ∧ Ac k a) ∨ (i = σ.length ∧ Ac n a) ∨ (i ≠ σ.length ∧ (∀ k, ownIx as k ≠ some i) ∧ Ai i a) := ⟨_, rfl⟩
  have sub : ∀ {i a}, Aj i a → (∃ k, ownIx as k = some i ∧ Ac k a) ∨ (i = σ.length ∧ Ac n a) ∨ (i ≠ σ.length ∧ (∀ k, ownIx as k ≠ some i) ∧ Ai i a) := fun z => by rw [eAj] at z; exact z
  have mo : ∀ a, MO B Aj a → MO (bcOf B Ai as) Ac a := fun a z => by
    rcases z with z | ⟨i, z⟩
    · exact .inl (.inl z)
    · rcases sub z with ⟨k, _, z⟩ | ⟨_, z⟩ | ⟨_, h, z⟩
      · exact .inr ⟨k, z⟩
      · exact .inr ⟨n, z⟩
      · exact .inl (.inr ⟨i, z, h⟩)
  have sm : Same (MH (bcOf B Ai as) Ac H') (MH B Aj H') := fun a o e => by
    obtain ⟨h1, h2⟩ := mask_some.mp e
    exact mask_some.mpr ⟨fun z => h1 (mo a z), h2⟩
  have xx : Ext c.q B Ai H Aj H' := ⟨fun a h => x.old a (.inl h), fun a o nb na e => by
    obtain ⟨h1, h2⟩ := x.fro a o (fun z => z.elim nb fun ⟨i, z, _⟩ => na i z) (fun k ⟨i, _, z⟩ => na i z) e
    refine ⟨fun i z => ?_, h2⟩
    rcases sub z with ⟨k, _, z⟩ | ⟨_, z⟩ | ⟨_, _, z⟩
    · exact h1 k z
    · exact h1 n z
    · exact na i z, fun hq a o e => by
    by_cases hb : bcOf B Ai as a
    · rw [x.old a hb]; exact e
    · exact (x.fro a o hb (fun k ⟨i, z, _⟩ => by rw [hqn hq k] at z; cases z) e).2⟩
  have an : Aj σ.length = Ac n := by
    funext a
    refine propext ⟨fun z => ?_, fun z => by rw [eAj]; exact .inr (.inl ⟨rfl, z⟩)⟩
    rcases sub z with ⟨k, h, z⟩ | ⟨_, z⟩ | ⟨h, _, z⟩
    · exact absurd (ilt h) (Nat.lt_irrefl _)
    · exact z
    · exact absurd rfl h
  have nlt : as.length ≤ n := by rw [← hn, hv]; simp; omega
  refine ⟨Aj, xx, ⟨by rw [putO_len]; exact R.len, fun i d e => ?_, fun i j a h1 h2 => ?_, fun i a h z => ?_, fun i a h => ?_, fun a h => by rw [x.old a (.inl h)]; exact R.hb a h, c.F.mono _ _ xx.same R.fx, R.pin⟩, an, sm⟩
  · rcases putO_at e with ⟨k, h1, h2⟩ | ⟨h1, h2⟩
    · obtain ⟨v, q1, q2⟩ := σk h1
      have hkn : k < n := Nat.lt_of_lt_of_le (klt h1) nlt
      have ho : (outEnv n outs)[k]? = some (some d) := by
        unfold outEnv
        rw [List.getElem?_take_of_lt hkn, List.getElem?_append_left (List.getElem?_eq_some_iff.mp h2).1]
        exact h2
      obtain ⟨v', r1, r2⟩ := R'.row k d ho
      have hv' : (vs'.map some)[k]? = some (some v) := by rw [hv, List.getElem?_map, List.getElem?_append_left (by have := klt h1; omega), q1]; rfl
      rw [hv'] at r1
      cases r1
      refine ⟨v, q2, ?_⟩
      rw [b1 k i h1, show Aj i = Ac k by
        funext a
        refine propext ⟨fun z => ?_, fun z => by rw [eAj]; exact .inl ⟨k, h1, z⟩⟩
        rcases sub z with ⟨k', h, z⟩ | ⟨h, _⟩ | ⟨_, h, _⟩
        · rw [k3 k k' i h1 h]; exact z
        · have := ilt h1; omega
        · exact absurd h1 (h k)]
      exact r2.mono sm fun _ _ => rfl
    · obtain ⟨v, r1, r2⟩ := R.row i d h2
      have hil : i ≠ σ.length := fun z => by rw [z, List.getElem?_eq_none (Nat.le_refl _)] at r1; cases r1
      refine ⟨v, r1, ?_⟩
      rw [b2 i h1, show Aj i = Ai i by
        funext a
        refine propext ⟨fun z => ?_, fun z => by rw [eAj]; exact .inr (.inr ⟨hil, h1, z⟩)⟩
        rcases sub z with ⟨k', h, _⟩ | ⟨h, _⟩ | ⟨_, _, z⟩
        · exact absurd h (h1 k')
        · exact absurd h hil
        · exact z]
      exact r2.mono xx.same fun a ha => x.old a (.inr ⟨i, ha, h1⟩)
  · have nc : ∀ {k i a}, Ac k a → Ai i a → (∀ l, ownIx as l ≠ some i) → False := fun {k i a} p q r => R'.nb k a p (.inr ⟨i, q, r⟩)
    rcases sub h1 with ⟨k, g, z⟩ | ⟨g, z⟩ | ⟨g, g', z⟩
    · rcases sub h2 with ⟨k', g2, z2⟩ | ⟨g2, z2⟩ | ⟨g2, g2', z2⟩
      · have := R'.dj k k' a z z2
        subst this
        rw [g] at g2
        exact Option.some.inj g2
      · have := R'.dj k n a z z2
        have := klt g
        omega
      · exact (nc z z2 g2').elim
    · rcases sub h2 with ⟨k', g2, z2⟩ | ⟨g2, z2⟩ | ⟨g2, g2', z2⟩
      · have := R'.dj n k' a z z2
        have := klt g2
        omega
      · rw [g, g2]
      · exact (nc z z2 g2').elim
    · rcases sub h2 with ⟨k', g2, z2⟩ | ⟨g2, z2⟩ | ⟨g2, g2', z2⟩
      · exact (nc z2 z g').elim
      · exact (nc z2 z g').elim
      · exact R.dj i j a z z2
  · rcases sub h with ⟨k, _, y⟩ | ⟨_, y⟩ | ⟨_, _, y⟩
    · exact R'.nb k a y (.inl z)
    · exact R'.nb n a y (.inl z)
    · exact R.nb i a y z
  · rcases sub h with ⟨k, _, y⟩ | ⟨_, y⟩ | ⟨_, g, y⟩
    · exact R'.al k a y
    · exact R'.al n a y
    · rw [x.old a (.inr ⟨i, y, g⟩)]; exact R.al i a y
theorem XAt.mono {x : Ex} {cv : Value} {dx : Option Addr} (sm : Same M H) (h : XAt cl K M x cv dx) : XAt cl K H x cv dx := by
  obtain ⟨C, h1, h2, h3⟩ := h
  refine ⟨C, h1, h2, h3.imp id fun ⟨a, xs, q1, q0, q2, q4, q5⟩ => ⟨a, xs, q1, q0, sm _ _ q2, q4, fun k v d e1 e2 => (q5 k v d e1 e2).mono sm⟩⟩
theorem run_call {g : Sg} {sz : Ss} {Q : VK} {W : WX} (hqn : c.q = true → ∀ k, ownIx as k = none) (hW : c.W = W) (hk : ArgsP ss g.ps as) (hko : BackP ss ss' g.po as) (hkx : BackP ss sz g.px as) (hd : Consts cl K dvs dds) (l : leS c.sx sz = true) (R : Rep cl K c.F B Ai ss ρ σ H) (ok : AllOk cl K (MH B Ai H) H σ ρ as vs ds)
    (p : EPost cl K c B Ai ss' σ H g.rs Q (match f (ds ++ dds) with | .ok d outs => .ok d (putO as outs ρ) | .ex e outs => .ex e (putO as outs ρ) | .stuck => .stuck)) :
    spD cl K g f (vs ++ dvs) H Q (fun cv d H => W cv d σ H) := by
  subst hW
  obtain ⟨l1, l2⟩ := ok.len
  refine ⟨bcOf B Ai as, acOf Ai as, ds ++ dds, call_rep hk hd R ok, by simp [l1, l2, hd.1], ?_⟩
  cases hr : f (ds ++ dds) with
  | stuck => rw [hr] at p; exact p
  | ok d outs =>
    rw [hr] at p
    intro v Ac H' x R' o
    obtain ⟨Ai', x2, R2, an, sm⟩ := call_back hqn hk hko (outs := outs) rfl rfl R ok x R'
    exact p v Ai' H' x2 R2 (by rw [an]; exact o.mono sm fun _ _ => rfl)
  | ex e outs =>
    rw [hr] at p
    intro cv dx Ac H' x R' hx
    obtain ⟨Ai', x2, R2, an, sm⟩ := call_back hqn hk hkx (outs := outs) rfl rfl R ok x R'
    obtain ⟨Ai3, x3, R3, _⟩ := R2.less l
    exact p cv dx σ Ai3 H' (x2.trans x3) R3 (fun _ _ => rfl) ((hx.mono sm).mono x3.same)
/-- an expression that changes how the names are held -/
def SE2 (cl : Str → Option Addr) (K : PySem.W.Frag) (c : Fx) (ss ss' : Ss) (s : Sh) (t : TE) (e : EM Dt) : Prop := ∀ B Ai ρ σ H Q, Rep cl K c.F B Ai ss ρ σ H → EPost cl K c B Ai ss' σ H s Q (e ρ) → t σ H Q
theorem se2_call {g : Sg} {sz : Ss} (ha : SA cl K c ss tA as) (hd : Consts cl K dvs dds) (hk : okArgs ss g.ps as = true := by rfl) (hko : okBack ss ss' g.po as = true := by rfl) (hkx : okBack ss sz g.px as = true := by rfl) (l : leS c.sx sz = true := by rfl) (hqn : (!c.q || valAs as) = true := by rfl) :
    SE2 cl K c ss ss' g.rs (tCallSD (spD cl K g f) dvs (WE c.W) tA) (eCall f as dds) := fun B Ai ρ σ H Q R p => by
  unfold eCall at p
  refine ha.use R (fun ds ρ1 e1 vs Ai1 H1 x1 R1 ok => ?_) (fun x ρ1 e1 => by rw [e1] at p; exact p) fun e1 => by rw [e1] at p; exact p
  simp only [e1, Er.bind] at p
  refine run_call (val_ix hqn) rfl (okArgs_at hk) (okBack_at hko) (okBack_at hkx) hd l R1 ok ?_
  cases hr : f (ds ++ dds) with
  | stuck => rw [hr] at p; exact p
  | ok d outs => rw [hr] at p; exact fun v Ai' H' x => p v Ai' H' (x1.trans x)
  | ex e outs => rw [hr] at p; exact XPost.ext x1 p
theorem se_call {g : Sg} {sz : Ss} (ha : SA cl K c ss tA as) (hd : Consts cl K dvs dds) (hk : okArgs ss g.ps as = true := by rfl) (hko : okBack ss ss g.po as = true := by rfl) (hkx : okBack ss sz g.px as = true := by rfl) (l : leS c.sx sz = true := by rfl) (hqn : (!c.q || valAs as) = true := by rfl) (hrs : g.rs = s := by rfl) :
    SE cl K c ss s (tCallSD (spD cl K g f) dvs (WE c.W) tA) (eCall f as dds) := hrs ▸ se2_call ha hd hk hko hkx l hqn
end
section
variable {cl : Str → Option Addr} {K : PySem.W.Frag} {F : FP} {c : Fx} {B : Addr → Prop} {Ai Ai' Ai1 Ai2 : Nat → Addr → Prop} {ss ss' ps : Ss} {ρ ρ' : Env} {σ σ' σ1 : L2.St} {M H H' H1 H2 : Hp} {v : V} {d : Dt} {s rs : Sh} {A : Addr → Prop}
  {t ta tb te : TE} {e e' a b : EM Dt} {tA : TA} {as : List AE} {vs dvs : List V} {ds dds : List Dt} {f : List Dt → Fq} {body : SM} {ar n k : Nat}
theorem Rep.more (R : Rep cl K F B Ai ss ρ σ H) (m : Nat) : Rep cl K F B Ai ss (ρ ++ List.replicate m none) (σ ++ List.replicate m none) H := by
  refine ⟨by simp [R.len], fun i d e => ?_, R.dj, R.nb, R.al, R.hb, R.fx, fun q hq => by have h := R.pin q hq; rw [List.getElem?_append_left (List.getElem?_eq_some_iff.mp h).1]; exact h⟩
  rcases Nat.lt_or_ge i ρ.length with h | h
  · rw [List.getElem?_append_left h] at e
    obtain ⟨v, h1, h2⟩ := R.row i d e
    exact ⟨v, by rw [List.getElem?_append_left (by rw [← R.len]; exact h)]; exact h1, h2⟩
  · rw [List.getElem?_append_right h, List.getElem?_replicate] at e
    split at e <;> cases e
/-- the rows that a def hands back -/
theorem Rep.outs {n : Nat} {vs : List V} (hv : vs.length = n) (R : Rep cl K .top B Ai ps ρ σ H) (hk : ∀ i, sh ps i ≠ .fz → i < n → σ[i]? = (vs.map some)[i]?) :
    ∃ Ai', Ext false B Ai H Ai' H ∧ Rep cl K .top B Ai' ps (outEnv n (outsOf ps k ρ)) (vs.map some) H ∧ Ai' n = Ai σ.length := by
  obtain ⟨Aj, eAj⟩ : ∃ Aj : Nat → Addr → Prop, Aj = fun i a => (i = n ∧ Ai σ.length a) ∨ (i < n ∧ i ≠ σ.length ∧ sh ps i ≠ .fz ∧ Ai i a) := ⟨_, rfl⟩
  have sub : ∀ {i a}, Aj i a → (i = n ∧ Ai σ.length a) ∨ (i < n ∧ i ≠ σ.length ∧ sh ps i ≠ .fz ∧ Ai i a) := fun z => by rw [eAj] at z; exact z
  have an : Aj n = Ai σ.length := by
    funext a
    exact propext ⟨fun z => (sub z).elim (fun z => z.2) fun z => absurd z.1 (Nat.lt_irrefl _), fun z => by rw [eAj]; exact .inl ⟨rfl, z⟩⟩
  have x : Ext false B Ai H Aj H := ⟨fun _ _ => rfl, fun a o _ na e => ⟨fun i z => (sub z).elim (fun z => na _ z.2) fun z => na i z.2.2.2, e⟩, fun z => nomatch z⟩
  refine ⟨Aj, x, ⟨by unfold outEnv; simp; omega, fun i d e => ?_, fun i j a h1 h2 => ?_, fun i a h => (sub h).elim (fun z => R.nb _ a z.2) fun z => R.nb i a z.2.2.2, fun i a h => (sub h).elim (fun z => R.al _ a z.2) fun z => R.al i a z.2.2.2, R.hb, True.intro, fun _ hq => nomatch hq⟩, an⟩
  · unfold outEnv at e
    have hin : i < n := by
      rcases Nat.lt_or_ge i n with q | q
      · exact q
      · rw [List.getElem?_take_eq_none q] at e; cases e
    rw [List.getElem?_take_of_lt hin] at e
    have hio : i < (outsOf ps k ρ).length := by
      rcases Nat.lt_or_ge i (outsOf ps k ρ).length with q | q
      · exact q
      · rw [List.getElem?_append_right q, List.getElem?_replicate] at e
        split at e <;> cases e
    rw [List.getElem?_append_left hio] at e
    have hik : i < k := by unfold outsOf at hio; simpa using hio
    unfold outsOf at e
    rw [List.getElem?_map, List.getElem?_range hik] at e
    simp only [Option.map_some, Option.some.injEq] at e
    by_cases hs : sh ps i = .fz
    · rw [if_pos hs] at e; cases e
    · rw [if_neg hs] at e
      obtain ⟨v, h1, h2⟩ := R.row i d (gv_some e)
      have hil : i ≠ σ.length := fun z => by rw [z, List.getElem?_eq_none (Nat.le_refl _)] at h1; cases h1
      refine ⟨v, by rw [← hk i hs hin]; exact h1, ?_⟩
      rw [show Aj i = Ai i by
        funext a
        exact propext ⟨fun z => (sub z).elim (fun z => absurd z.1 (by omega)) fun z => z.2.2.2, fun z => by rw [eAj]; exact .inr ⟨hin, hil, hs, z⟩⟩]
      exact h2.mono x.same fun _ _ => rfl
  · rcases sub h1 with ⟨e1, q1⟩ | ⟨l1, n1, _, q1⟩
    · rcases sub h2 with ⟨e2, q2⟩ | ⟨l2, n2, _, q2⟩
      · rw [e1, e2]
      · exact absurd (R.dj _ _ a q2 q1) n2
    · rcases sub h2 with ⟨e2, q2⟩ | ⟨l2, n2, _, q2⟩
      · exact absurd (R.dj _ _ a q1 q2) n1
      · exact R.dj _ _ a q1 q2
theorem sh_keys {i : Nat} (h : sh ps i ≠ .fz) : i ∈ ps.map (·.1) := by
  by_cases z : ∃ p ∈ ps, p.1 = i
  · obtain ⟨p, hp, rfl⟩ := z
    exact List.mem_map_of_mem hp
  · exact absurd (sh_none fun p hp q => z ⟨p, hp, q⟩) h
/-- what a body is judged by -/
abbrev fxOf (g : Sg) (E : XK) : Fx := { W := fun cv d _ H => E cv d H, sx := g.px, kp := fun i => (g.po.map (·.1) ++ g.px.map (·.1)).contains i, rs := g.rs, sr := g.po, sl := [], F := .top, q := false }
theorem body_ok {t : TS} {N : List Str} {Q : VK} {E : XK} {g : Sg} (hN : N.length = g.n) (hs : SS cl K (fxOf g E) g.ps g.po t body) (h : spD cl K g (runF g body) vs H Q E) : t { nx := fun _ H' => Q .non H', rt := Q } (L2.start N vs) H := by
  obtain ⟨B, Ai, ds, R, hl, h⟩ := h
  unfold runF at h
  by_cases har : ds.length = g.ar
  · rw [if_pos har] at h
    have hst : L2.start N vs = vs.map some ++ List.replicate (g.n - g.ar) none := by unfold L2.start; rw [hN, ← hl, har]
    rw [hst]
    refine hs B Ai _ _ H _ (R.more _) ?_
    have kp : ∀ {σ' : L2.St} {po : Ss}, (∀ i ∈ po.map (·.1), (fxOf g E).kp i = true) → (∀ i, (fxOf g E).kp i = true → σ'[i]? = (vs.map some ++ List.replicate (g.n - g.ar) none)[i]?) → ∀ i, sh po i ≠ .fz → i < vs.length → σ'[i]? = (vs.map some)[i]? := fun hp hk i h1 h2 => by
      rw [hk i (hp i (sh_keys h1)), List.getElem?_append_left (by simpa using h2)]
    cases hr : body (ds.map some ++ List.replicate (g.n - g.ar) none) with
    | rt d ρ' =>
      rw [hr] at h
      intro v σ' Ai1 H1 x1 R1 k1 o1
      obtain ⟨Ai2, x2, R2, an⟩ := R1.outs (k := g.k) rfl (kp (fun i hi => List.contains_iff_mem.mpr (List.mem_append_left _ hi)) k1)
      exact h v Ai2 H1 (x1.trans x2) R2 (by rw [an]; exact o1.mono x2.same fun _ _ => rfl)
    | nx ρ' =>
      rw [hr] at h
      intro σ' Ai1 H1 x1 R1 k1
      obtain ⟨R3, x3⟩ := R1.temp
      obtain ⟨Ai2, x2, R2, an⟩ := R3.outs (k := g.k) rfl (kp (fun i hi => List.contains_iff_mem.mpr (List.mem_append_left _ hi)) k1)
      unfold endF at h
      cases hrs : g.rs with
      | fz =>
        simp only [hrs] at h
        exact h .non Ai2 H1 ((x1.trans x3).trans x2) R2 (.fz .non fun a => by rw [an, setA_same]; exact fun z => z)
      | _ => simp only [hrs] at h
    | ex e ρ' =>
      rw [hr] at h
      intro cv dx σ' Ai1 H1 x1 R1 k1 hx
      obtain ⟨Ai2, x2, R2, an⟩ := R1.outs (k := g.k) rfl (kp (fun i hi => List.contains_iff_mem.mpr (List.mem_append_right _ hi)) k1)
      exact h cv dx Ai2 H1 (x1.trans x2) R2 (hx.mono x2.same)
    | bk ρ' => rw [hr] at h; exact h.elim
    | ct ρ' => rw [hr] at h; exact h.elim
    | stuck => rw [hr] at h; exact h.elim
  · rw [if_neg har] at h; exact h.elim
end
section
variable {P : Program} {w : World} {K : PySem.W.Frag} {mg : Str → Option Value} {base : Heap} {cl : Str → Option Addr}
/-- a def keeps the promise that its word makes -/
theorem def_ok {x qual : Str} {st : Stmt} {f : Addr} {fd : FuncData} {N pn : List Str} {lv : Nat} {g : Sg} {body : SM} (F : Fun K x qual st f fd) (S : FnScope N pn (defScope st)) (har : pn.length = g.ar) (hn : N.length = g.n)
    (hbody : ∀ (cdv : Value) (A : Around) (outer : List PySem.Env) (s : Shared) (H : Hp) (E : XK), Room lv (A.deeper (envOfC qual (defScope st) s.heap.objs.size f cdv)) →
      ∃ t, PSs (cxOf (L2.CX P w) P w K mg base N qual (defScope st) f cdv A outer s H E) (defBody st) t ∧ SS cl K (fxOf g E) g.ps g.po t body) :
    FnOk P w K mg base (L2.CX P w) (lv + 1) f fd pn (spD cl K g (runF g body)) := by
  refine F.okX S (fun vs H Q E h => ?_) (fun cdv A outer s H vs Q E hr h => ?_)
  · obtain ⟨B, Ai, ds, R, hl, h⟩ := h
    rw [← hl, har]
    by_cases e : ds.length = g.ar
    · exact e
    · unfold runF at h; rw [if_neg e] at h; exact h.elim
  · obtain ⟨t, h1, h2⟩ := hbody cdv A outer s H E hr
    exact ⟨t, h1, body_ok hn h2 h⟩
end
/-! ### errors -/
def sRaise (c : Str) : SM := fun ρ => .ex ⟨c, []⟩ ρ
def subX (a b : Str) : Bool := a == b || b == "DiscError"
def sTry (body : SM) (hs : List (Str × (Ex → SM))) : SM := fun ρ => match body ρ with
  | .ex e ρ1 => match hs.find? (fun h => subX e.c h.1) with
    | some h => h.2 e ρ1
    | none => .ex e ρ1
  | r => r
/-- what the classes of the text must have -/
def SubOk (cl : Str → Option Addr) (K : PySem.W.Frag) (cs : List Str) : Prop := ∀ a b A B, cl a = some A → cs.contains b = true → cl b = some B → PySem.W.exmOne K (.ref A) (.ref B) = some (subX a b)
section
variable {cl : Str → Option Addr} {K : PySem.W.Frag} {F : FP} {c : Fx} {B : Addr → Prop} {Ai Ai' Ai1 Ai2 : Nat → Addr → Prop} {ss ss' ps : Ss} {ρ ρ' : Env} {σ σ' σ1 : L2.St} {M H H' H1 H2 : Hp} {v : V} {d : Dt} {s rs : Sh} {A : Addr → Prop}
  {t ta tb te : TE} {e e' a b : EM Dt} {tA : TA} {as : List AE} {vs dvs : List V} {ds dds : List Dt} {f : List Dt → Fq} {u1 u2 : TS} {s1 s2 : SM} {D : Ends}
theorem ss_raise {x : Str} {C : Addr} (hc : cl x = some C) (l : leS c.sx ss = true := by rfl) : SS cl K c ss ss' (fun _ σ H => c.W (.ref C) none σ H) (sRaise x) := fun B Ai ρ σ H D R p => by
  obtain ⟨Ai1, x1, R1, _⟩ := R.less l
  exact p (.ref C) none σ Ai1 H x1 R1 (fun _ _ => rfl) ⟨C, hc, rfl, .inl ⟨rfl, rfl⟩⟩
/-- what is known of the error in an except suite -/
structure SuX (cl : Str → Option Addr) (K : PySem.W.Frag) (x : Ex) (cv : Value) (dx : Option Addr) (H0 : Hp) (B : Addr → Prop) (Ai : Nat → Addr → Prop) : Prop where
  at_ : XAt cl K (MH B Ai H0) x cv dx
/-- a clause: its suite answers as the word says, the error and the names as they stand -/
def SH (cl : Str → Option Addr) (K : PySem.W.Frag) (c : Fx) (ss ss' : Ss) (t : Value → Option Addr → TS) (h : Ex → SM) : Prop :=
  ∀ x cv dx B Ai ρ σ H D, Rep cl K c.F B Ai ss ρ σ H → XAt cl K (MH B Ai H) x cv dx → SPost cl K c B Ai ss' σ H D (h x ρ) → t cv dx D σ H
theorem SPost.tryX {r : Sr} {W : WX} {sx : Ss} (p : SPost cl K c B Ai ss' σ H D r) (hx : ∀ x ρ1, r = .ex x ρ1 → XPost cl K { c with W := W, sx := sx } B Ai σ H x ρ1) : SPost cl K { c with W := W, sx := sx } B Ai ss' σ H D r := by
  cases r with
  | ex x ρ1 => exact hx x ρ1 rfl
  | nx ρ => exact p
  | rt d ρ => exact p
  | bk ρ => exact p
  | ct ρ => exact p
  | stuck => exact p
theorem ss_try1 {x : Str} {C : Addr} {sx : Ss} {tb : WX → TS} {ts : Addr → Value → Option Addr → TS} {h : Ex → SM} {cs : List Str} (ok : SubOk cl K cs) (hc : cl x = some C) (hb : ∀ W, SS cl K { c with W := W, sx := sx } ss ss' (tb W) s1)
    (hh : ∀ a, SH cl K c sx ss' (ts a) h) (l : leS c.sx sx = true := by rfl) (hcx : cs.contains x = true := by rfl) : SS cl K c ss ss' (fun D σ H => tb (wOnly K (.ref C) ts c.W D) D σ H) (sTry s1 [(x, h)]) := fun B Ai ρ σ H D R p => by
  unfold sTry at p
  refine (hb _).use R ?_
  cases hr : s1 ρ with
  | ex y ρ1 =>
    rw [hr] at p
    intro cv dx σ' Ai1 H1 x1 R1 k1 hx
    obtain ⟨Cy, hy, rfl, _⟩ := id hx
    refine ⟨subX y.c x, ok _ _ _ _ hy hcx hc, fun hs a na => ?_, fun hs => ?_⟩
    · simp only [List.find?_cons, hs] at p
      exact hh a y _ dx B Ai1 ρ1 σ' H1 D R1 hx (p.ext x1 k1)
    · simp only [List.find?_cons, hs, List.find?_nil] at p
      obtain ⟨Ai2, x2, R2, _⟩ := R1.less l
      exact p _ dx σ' Ai2 H1 (x1.trans x2) R2 k1 (hx.mono x2.same)
  | nx ρ => rw [hr] at p; exact p
  | rt d ρ => rw [hr] at p; exact p
  | bk ρ => rw [hr] at p; exact p
  | ct ρ => rw [hr] at p; exact p
  | stuck => rw [hr] at p; exact p
/-- .. as n: the slot i is the error's within the suite, nothing behind it -/
theorem ss_try1as {x : Str} {C : Addr} {i : Nat} {sx : Ss} {tb : WX → TS} {ts : Addr → Value → Option Addr → TS} {h : Ex → SM} {cs : List Str} (ok : SubOk cl K cs) (hc : cl x = some C) (hb : ∀ W, SS cl K { c with W := W, sx := sx } ss ss' (tb W) s1)
    (hh : ∀ a, SH cl K c sx ss' (fun cv dx D σ H => ts a cv dx { nx := fun σ' H' => D.nx (σ'.set i none) H', rt := D.rt, bk := fun σ' H' => D.bk (σ'.set i none) H', ct := fun σ' H' => D.ct (σ'.set i none) H' } (σ.set i (some (.ref a))) H) h) (l : leS c.sx sx = true := by rfl) (hcx : cs.contains x = true := by rfl) :
    SS cl K c ss ss' (fun D σ H => tb (wAs K (.ref C) i ts c.W D) D σ H) (sTry s1 [(x, h)]) := fun B Ai ρ σ H D R p => by
  unfold sTry at p
  refine (hb _).use R ?_
  cases hr : s1 ρ with
  | ex y ρ1 =>
    rw [hr] at p
    intro cv dx σ' Ai1 H1 x1 R1 k1 hx
    obtain ⟨Cy, hy, rfl, _⟩ := id hx
    refine ⟨subX y.c x, ok _ _ _ _ hy hcx hc, fun hs a na => ?_, fun hs => ?_⟩
    · simp only [List.find?_cons, hs] at p
      exact hh a y _ dx B Ai1 ρ1 σ' H1 D R1 hx (p.ext x1 k1)
    · simp only [List.find?_cons, hs, List.find?_nil] at p
      obtain ⟨Ai2, x2, R2, _⟩ := R1.less l
      exact p _ dx σ' Ai2 H1 (x1.trans x2) R2 k1 (hx.mono x2.same)
  | nx ρ => rw [hr] at p; exact p
  | rt d ρ => rw [hr] at p; exact p
  | bk ρ => rw [hr] at p; exact p
  | ct ρ => rw [hr] at p; exact p
  | stuck => rw [hr] at p; exact p
/-- a suite that does not look at its error -/
theorem sh_of {ts : Value → Option Addr → TS} {h : SM} (hs : ∀ cv dx, SS cl K c ss ss' (ts cv dx) h) : SH cl K c ss ss' ts (fun _ => h) := fun x cv dx B Ai ρ σ H D R _ p => (hs cv dx).use R p
/-- several clauses -/
inductive SHs (cl : Str → Option Addr) (K : PySem.W.Frag) (c : Fx) (cs : List Str) (ss ss' : Ss) : List (Value × (Addr → Value → Option Addr → TS)) → List (Str × (Ex → SM)) → Prop
  | nil : SHs cl K c cs ss ss' [] []
  | cons {x : Str} {C : Addr} {ts : Addr → Value → Option Addr → TS} {h : Ex → SM} {l : List (Value × (Addr → Value → Option Addr → TS))} {hs : List (Str × (Ex → SM))} (hc : cl x = some C) (hh : ∀ a, SH cl K c ss ss' (ts a) h) (r : SHs cl K c cs ss ss' l hs) (hcx : cs.contains x = true := by rfl) : SHs cl K c cs ss ss' ((.ref C, ts) :: l) ((x, h) :: hs)
theorem SHs.wish {l : List (Value × (Addr → Value → Option Addr → TS))} {hs : List (Str × (Ex → SM))} {y : Ex} {sx : Ss} {cs : List Str} (ok : SubOk cl K cs) (hh : SHs cl K c cs sx ss' l hs) {dx : Option Addr} {cv : Value} (R : Rep cl K c.F B Ai sx ρ σ H) (hx : XAt cl K (MH B Ai H) y cv dx) (le : leS c.sx sx = true)
    (p : SPost cl K c B Ai ss' σ H D (match hs.find? (fun h => subX y.c h.1) with | some h => h.2 y ρ | none => .ex y ρ)) : wMany K c.W D l cv dx σ H := by
  obtain ⟨Cy, hy, rfl, _⟩ := id hx
  induction hh with
  | nil =>
    obtain ⟨Ai2, x2, R2, _⟩ := R.less le
    exact p _ dx σ Ai2 H x2 R2 (fun _ _ => rfl) (hx.mono x2.same)
  | @cons x C ts h l hs hc hh r hcx ih =>
    refine ⟨subX y.c x, ok _ _ _ _ hy hcx hc, fun hs a na => ?_, fun hs => ?_⟩
    · simp only [List.find?_cons, hs] at p
      exact hh a y _ dx B Ai ρ σ H D R hx p
    · simp only [List.find?_cons, hs] at p
      exact ih p
theorem ss_tryM {sx : Ss} {tb : WX → TS} {l : List (Value × (Addr → Value → Option Addr → TS))} {hs : List (Str × (Ex → SM))} {cs : List Str} (ok : SubOk cl K cs) (hb : ∀ W, SS cl K { c with W := W, sx := sx } ss ss' (tb W) s1) (hh : SHs cl K c cs sx ss' l hs) (le : leS c.sx sx = true := by rfl) :
    SS cl K c ss ss' (fun D σ H => tb (wMany K c.W D l) D σ H) (sTry s1 hs) := fun B Ai ρ σ H D R p => by
  unfold sTry at p
  refine (hb _).use R ?_
  cases hr : s1 ρ with
  | ex y ρ1 =>
    rw [hr] at p
    intro cv dx σ' Ai1 H1 x1 R1 k1 hx
    refine hh.wish ok R1 hx le ?_
    exact SPost.ext (r := match hs.find? (fun h => subX y.c h.1) with | some h => h.2 y ρ1 | none => .ex y ρ1) x1 k1 p
  | nx ρ => rw [hr] at p; exact p
  | rt d ρ => rw [hr] at p; exact p
  | bk ρ => rw [hr] at p; exact p
  | ct ρ => rw [hr] at p; exact p
  | stuck => rw [hr] at p; exact p
end
/-! ### except suites -/
def sSu (s : SM) : SM := fun ρ => match s ρ with | .ex _ _ => .stuck | r => r
def Sr.rid (i : Nat) : Sr → Sr
  | .nx ρ => .nx (ρ.set i none)
  | .rt d ρ => .rt d (ρ.set i none)
  | .bk ρ => .bk (ρ.set i none)
  | .ct ρ => .ct (ρ.set i none)
  | .ex _ _ => .stuck
  | .stuck => .stuck
/-- .. as the name i -/
def sAs (i : Nat) (s : SM) : SM := fun ρ => if i < ρ.length then (s (ρ.set i none)).rid i else .stuck
def eIsX (errs : List Str) (x : Ex) (cn : Str) : EM Dt := fun ρ => if errs.contains x.c && x.fs.isEmpty then .ok (.bl (subX x.c cn)) ρ else .stuck
def eXfld (x : Ex) (f : Str) : EM Dt := fun ρ => match x.fs.lookup f with | some d => .ok d ρ | none => .stuck
section
variable {cl : Str → Option Addr} {K : PySem.W.Frag} {c : Fx} {B : Addr → Prop} {Ai Ai' Ai1 Ai2 : Nat → Addr → Prop} {ss ss' ps : Ss} {ρ ρ' : Env} {σ σ' σ1 : L2.St} {M H H' H1 H2 : Hp} {v : V} {d : Dt} {s rs : Sh} {A : Addr → Prop}
  {t ta tb te : TE} {e e' a b : EM Dt} {tA : TA} {as : List AE} {vs dvs : List V} {ds dds : List Dt} {f : List Dt → Fq} {u1 u2 : TS} {s1 s2 : SM} {D : Ends}
abbrev suFx (cl : Str → Option Addr) (K : PySem.W.Frag) (c : Fx) (x : Ex) (cv : Value) (dx : Option Addr) (pins : List (Nat × V)) : Fx :=
  { c with W := fun _ _ _ _ => False, sx := [], F := ⟨fun M => c.F.p M ∧ XAt cl K M x cv dx, fun M M' sm h => ⟨c.F.mono M M' sm h.1, h.2.mono sm⟩, c.F.pins ++ pins⟩ }
theorem Rep.noF {F F' : FP} (R : Rep cl K F' B Ai ss ρ σ H) (h1 : ∀ M, F'.p M → F.p M) (h2 : ∀ q ∈ F.pins, q ∈ F'.pins) : Rep cl K F B Ai ss ρ σ H :=
  ⟨R.len, R.row, R.dj, R.nb, R.al, R.hb, h1 _ R.fx, fun q hq => R.pin q (h2 q hq)⟩
theorem sh_su {ts : Value → Option Addr → TS} {h : Ex → SM} (hs : ∀ x cv dx, SS cl K (suFx cl K c x cv dx []) ss ss' (ts cv dx) (h x)) : SH cl K c ss ss' ts (fun x => sSu (h x)) := fun x cv dx B Ai ρ σ H D R hx p => by
  have R' : Rep cl K (suFx cl K c x cv dx []).F B Ai ss ρ σ H := ⟨R.len, R.row, R.dj, R.nb, R.al, R.hb, ⟨R.fx, hx⟩, fun q hq => R.pin q (by simpa using hq)⟩
  have back : ∀ {sz : Ss} {Ai' ρ' σ' H'}, Rep cl K (suFx cl K c x cv dx []).F B Ai' sz ρ' σ' H' → Rep cl K c.F B Ai' sz ρ' σ' H' := fun r => r.noF (fun M h => h.1) fun q hq => List.mem_append_left _ hq
  refine (hs x cv dx).use R' ?_
  change SPost cl K c B Ai ss' σ H D (sSu (h x) ρ) at p
  unfold sSu at p
  cases hr : h x ρ with
  | nx ρ => rw [hr] at p; exact fun σ' Ai' H' x1 R1 k => p σ' Ai' H' x1 (back R1) k
  | rt d ρ => rw [hr] at p; exact fun v σ' Ai' H' x1 R1 k o => p v σ' Ai' H' x1 (back R1) k o
  | bk ρ => rw [hr] at p; exact fun σ' Ai' H' x1 R1 k => p σ' Ai' H' x1 (back R1) k
  | ct ρ => rw [hr] at p; exact fun σ' Ai' H' x1 R1 k => p σ' Ai' H' x1 (back R1) k
  | ex x ρ => rw [hr] at p; exact p.elim
  | stuck => rw [hr] at p; exact p
theorem sh_as {i : Nat} {a : Addr} {ts : Value → Option Addr → TS} {h : Ex → SM} (hs : ∀ x cv dx, SS cl K (suFx cl K c x cv dx [(i, .ref a)]) ss ss' (ts cv dx) (h x)) (hk : c.kp i = false := by rfl) (hp : (c.F.pins.map (·.1)).contains i = false := by rfl) :
    SH cl K c ss ss' (fun cv dx D σ H => ts cv dx { nx := fun σ' H' => D.nx (σ'.set i none) H', rt := D.rt, bk := fun σ' H' => D.bk (σ'.set i none) H', ct := fun σ' H' => D.ct (σ'.set i none) H' } (σ.set i (some (.ref a))) H) (fun x => sAs i (h x)) := fun x cv dx B Ai ρ σ H D R hx p => by
  change SPost cl K c B Ai ss' σ H D (sAs i (h x) ρ) at p
  unfold sAs at p
  by_cases hi : i < ρ.length
  · rw [if_pos hi] at p
    have hiσ : i < σ.length := by rw [← R.len]; exact hi
    have R' : Rep cl K (suFx cl K c x cv dx [(i, .ref a)]).F B Ai ss (ρ.set i none) (σ.set i (some (.ref a))) H := by
      refine ⟨by simpa using R.len, fun j d e => ?_, R.dj, R.nb, R.al, R.hb, ⟨R.fx, hx⟩, fun q hq => ?_⟩
      · by_cases hj : j = i
        · subst hj; rw [List.getElem?_set_self hi] at e; cases e
        · rw [List.getElem?_set_ne (Ne.symm hj)] at e
          rw [List.getElem?_set_ne (Ne.symm hj)]
          exact R.row j d e
      · rcases List.mem_append.mp hq with hq | hq
        · rw [List.getElem?_set_ne (fun z => pins_ne hp q hq z.symm)]; exact R.pin q hq
        · obtain rfl := List.mem_singleton.mp hq
          rw [List.getElem?_set_self hiσ]
    have back : ∀ {sz : Ss} {Ai' ρ' σ' H'}, Rep cl K (suFx cl K c x cv dx [(i, .ref a)]).F B Ai' sz ρ' σ' H' → Rep cl K c.F B Ai' sz (ρ'.set i none) (σ'.set i none) H' := fun {sz Ai' ρ' σ' H'} r => by
      refine ⟨by simpa using r.len, fun j d e => ?_, r.dj, r.nb, r.al, r.hb, r.fx.1, fun q hq => ?_⟩
      · by_cases hj : j = i
        · subst hj
          rcases Nat.lt_or_ge j ρ'.length with q | q
          · rw [List.getElem?_set_self q] at e; cases e
          · rw [List.getElem?_eq_none (by simpa using q)] at e; cases e
        · rw [List.getElem?_set_ne (Ne.symm hj)] at e
          rw [List.getElem?_set_ne (Ne.symm hj)]
          exact r.row j d e
      · rw [List.getElem?_set_ne (fun z => pins_ne hp q hq z.symm)]; exact r.pin q (List.mem_append_left _ hq)
    have kk : ∀ {σ' : L2.St}, (∀ j, c.kp j = true → σ'[j]? = (σ.set i (some (.ref a)))[j]?) → ∀ j, c.kp j = true → (σ'.set i none)[j]? = σ[j]? := fun h j hj => by
      rw [set_ne hk j hj, h j hj, set_ne hk j hj]
    have kk2 : ∀ {σ' : L2.St}, (∀ j, c.kp j = true → σ'[j]? = (σ.set i (some (.ref a)))[j]?) → ∀ j, c.kp j = true → σ'[j]? = σ[j]? := fun h j hj => by
      rw [h j hj, set_ne hk j hj]
    refine (hs x cv dx).use R' ?_
    cases hr : h x (ρ.set i none) with
    | nx ρ => rw [hr] at p; exact fun σ' Ai' H' x1 R1 k => p _ Ai' H' x1 (back R1) (kk k)
    | rt d ρ2 =>
      rw [hr] at p
      exact fun v σ' Ai' H' x1 R1 k o => p v (σ'.set i none) Ai' H' x1 (back R1) (kk k) (by rw [List.length_set]; exact o)
    | bk ρ => rw [hr] at p; exact fun σ' Ai' H' x1 R1 k => p _ Ai' H' x1 (back R1) (kk k)
    | ct ρ => rw [hr] at p; exact fun σ' Ai' H' x1 R1 k => p _ Ai' H' x1 (back R1) (kk k)
    | ex x ρ => rw [hr] at p; exact p.elim
    | stuck => rw [hr] at p; exact p
  · rw [if_neg hi] at p; exact p.elim
/-- isinstance(e, C) of the error -/
theorem se_isx {i : Nat} {a C : Addr} {x : Ex} {cv : Value} {dx : Option Addr} {errs : List Str} {cn : Str} {k : List V → Hp → VK → Prop} (hF : ∀ M, c.F.p M → XAt cl K M x cv dx) (hp : (i, V.ref a) ∈ c.F.pins) (hi : sh ss i = .fz)
    (hE : ∀ n D, errs.contains n = true → cl n = some D → ExcC K D ∧ PySem.W.kitOne K (.ref D) (.ref C) = some (subX n cn))
    (hk : ∀ D H Q, cv = .ref D → dx = none → ExcC K D → rIsE K D a [.ref a, .ref C] H Q → k [.ref a, .ref C] H Q) : SE cl K c ss .fz (tOpA k (tCons (tVar i) (tCons (tC (.ref C)) tNil))) (eIsX errs x cn) := fun B Ai ρ σ H Q R p => by
  unfold eIsX at p
  split at p
  · rename_i h
    simp only [Bool.and_eq_true, List.isEmpty_iff] at h
    obtain ⟨D, h1, h2, h3⟩ := hF _ R.fx
    have hd : dx = none := by
      rcases h3 with h3 | ⟨a', xs, _, h4, _⟩
      · exact h3.2
      · exact absurd h.2 h4
    obtain ⟨e1, e2⟩ := hE x.c D h.1 h1
    obtain ⟨Ai2, x2, R2, o2⟩ := R.res (.old (.bl (subX x.c cn)))
    refine ⟨.ref a, R.pin _ hp, hk D H Q h2 hd e1 ⟨.ref C, .ref C, subX x.c cn, rfl, fun u hu => hu, e2, p _ Ai2 H x2 R2 o2⟩⟩
  · exact p.elim
end
/-! ### changes of what is held -/
/-- a method of the list at the name i: from its items and the arguments, the new items and a value -/
def eMut (i : Nat) (f : List Dt → List Dt → Option (List Dt × Dt)) (as : List AE) : EM Dt := fun ρ => match gv ρ i with
  | some (.lst _) => (eArgs as ρ).bind fun ds ρ1 => (match gv ρ1 i with
    | some (.lst l) => (match f l ds with
      | some (l', z) => .ok z (ρ1.set i (some (.lst l')))
      | none => .stuck)
    | _ => .stuck)
  | _ => .stuck
/-- .. of the list in the field g of the object at the name i -/
def setFD (g : Str) (d : Dt) : List (Str × Dt) → List (Str × Dt)
  | [] => [(g, d)]
  | (k, x) :: r => if k = g then (k, d) :: r else (k, x) :: setFD g d r
def eMutF (cs : List Str) (i : Nat) (g : Str) (f : List Dt → List Dt → Option (List Dt × Dt)) (as : List AE) : EM Dt := fun ρ => match gv ρ i with
  | some (.obj cn fs) => if cs.contains cn then (match fs.lookup g with
    | some (.lst _) => (eArgs as ρ).bind fun ds ρ1 => (match gv ρ1 i with
      | some (.obj cn1 fs1) => (match fs1.lookup g with
        | some (.lst l) => (match f l ds with
          | some (l', z) => .ok z (ρ1.set i (some (.obj cn1 (setFD g (.lst l') fs1))))
          | none => .stuck)
        | _ => .stuck)
      | _ => .stuck)
    | _ => .stuck) else .stuck
  | _ => .stuck
def AtsL (cl : Str → Option Addr) (K : PySem.W.Frag) (M : Hp) (xs : List V) (l : List Dt) : Prop := xs.length = l.length ∧ ∀ (i : Nat) v d, xs[i]? = some v → l[i]? = some d → At cl K M v d
/-- what such a method does -/
def MutS (cl : Str → Option Addr) (K : PySem.W.Frag) (f : List Dt → List Dt → Option (List Dt × Dt)) (r : V → List V → Hp → VK → Prop) : Prop :=
  ∀ (M H : Hp) (p : Addr) (xs : List V) (l l' : List Dt) (vs : List V) (ds : List Dt) (z : Dt) (Q : VK), Same M H → H p = some (.lst xs) → AtsL cl K M xs l → Bors cl K M H vs ds → f l ds = some (l', z) →
    (∀ xs' v, AtsL cl K M xs' l' → At cl K M v z → Q v (upd H p (.lst xs'))) → r (.ref p) vs H Q
/-- .. that keeps an argument: the arguments may be shared -/
def MutA (cl : Str → Option Addr) (K : PySem.W.Frag) (f : List Dt → List Dt → Option (List Dt × Dt)) (r : V → List V → Hp → VK → Prop) : Prop :=
  ∀ (M H : Hp) (p : Addr) (xs : List V) (l l' : List Dt) (vs : List V) (ds : List Dt) (z : Dt) (Q : VK), Same M H → H p = some (.lst xs) → AtsL cl K M xs l → AtsL cl K M vs ds → f l ds = some (l', z) →
    (∀ xs' v, AtsL cl K M xs' l' → At cl K M v z → Q v (upd H p (.lst xs'))) → r (.ref p) vs H Q
section
variable {cl : Str → Option Addr} {K : PySem.W.Frag} {c : Fx} {F : FP} {B : Addr → Prop} {Ai Ai' Ai1 Ai2 : Nat → Addr → Prop} {ss ss' ps : Ss} {ρ ρ' : Env} {σ σ' σ1 : L2.St} {M H H' H1 H2 : Hp} {v : V} {d : Dt} {s rs : Sh} {A : Addr → Prop}
  {t ta tb te : TE} {e e' a b : EM Dt} {tA : TA} {as : List AE} {vs dvs : List V} {ds dds l l' : List Dt} {xs xs' : List V} {f : List Dt → List Dt → Option (List Dt × Dt)} {u1 u2 : TS} {s1 s2 : SM} {D : Ends} {p : Addr} {r : V → List V → Hp → VK → Prop}
theorem Own.lsFz (h : Own cl K M H (.ls .fz) v (.lst l) A) : ∃ p xs, v = .ref p ∧ H p = some (.lst xs) ∧ AtsL cl K M xs l ∧ ∀ a, A a ↔ a = p := by
  cases h with
  | @ls p _ xs _ _ Ak h1 h2 h3 h4 h5 h6 h7 =>
    refine ⟨p, xs, rfl, h1, ⟨h2, fun i v d a b => (h3 i v d a b).fzAt.1⟩, fun a => ⟨fun z => ?_, fun z => (h6 a).mpr (.inl z)⟩⟩
    rcases (h6 a).mp z with z | ⟨i, z⟩
    · exact z
    · have hi := h7 i a z
      exact ((h3 i _ _ (List.getElem?_eq_getElem hi) (List.getElem?_eq_getElem (h2 ▸ hi))).fzAt.2 a z).elim
theorem own_lsFz (h : H p = some (.lst xs)) (hl : AtsL cl K M xs l) (hA : ∀ a, A a ↔ a = p) : Own cl K M H (.ls .fz) (.ref p) (.lst l) A :=
  .ls (fun _ _ => False) h hl.1 (fun i v d a b => .fz (hl.2 i v d a b) fun _ z => z) (fun _ _ _ z => z.elim) (fun _ z => z) (fun a => by rw [hA a]; exact ⟨.inl, fun z => z.elim id fun ⟨_, z⟩ => z.elim⟩) fun _ _ z => z.elim
/-- the list at the name i gets other items -/
theorem Rep.mut (R : Rep cl K F B Ai ss ρ σ H) {i : Nat} (hs : sh ss i = .ls .fz) (hi : ρ[i]? = some (some (.lst l))) (hv : σ[i]? = some (some (.ref p))) (hl : AtsL cl K (MH B Ai H) xs' l') :
    ∃ Ai', Ext false B Ai H Ai' (upd H p (.lst xs')) ∧ Rep cl K F B Ai' ss (ρ.set i (some (.lst l'))) σ (upd H p (.lst xs')) := by
  obtain ⟨v, h1, h2⟩ := R.row i _ hi
  rw [hv] at h1
  cases h1
  rw [hs] at h2
  obtain ⟨p', ys, e, hp, hys, hA⟩ := h2.lsFz
  cases e
  have hil : i < ρ.length := (List.getElem?_eq_some_iff.mp hi).1
  have hMO : ∀ q, setA Ai i (Ai i) q = Ai q := fun q => by
    by_cases z : q = i
    · subst z; rw [setA_same]
    · rw [setA_ne z]
  obtain ⟨R2, x2⟩ := R.step (q := false) (k := i) (A := Ai i) (H' := upd H p (.lst xs')) (ρ' := ρ.set i (some (.lst l'))) (σ' := σ) (ss' := ss) (fun a z => .inl z)
    (fun a z => by rw [(hA a).mp z, upd_same]; exact fun z => nomatch z) (fun a o na e => by rw [upd_ne (fun z => na ((hA a).mpr z))]; exact e) (by simpa using R.len) (fun _ _ => rfl) (fun z => nomatch z)
    (fun j d e hj => by
      rw [List.getElem?_set_ne (Ne.symm hj)] at e
      obtain ⟨v, q1, q2⟩ := R.row j d e
      exact ⟨v, q1, .inl ⟨e, q1, rfl⟩⟩)
    (fun d e => by
      rw [List.getElem?_set_self hil] at e
      cases e
      refine ⟨.ref p, hv, ?_⟩
      rw [hs]
      refine own_lsFz upd_same ⟨hl.1, fun j v d a b => (hl.2 j v d a b).mono fun q o e => ?_⟩ hA
      obtain ⟨n1, n2⟩ := mask_some.mp e
      refine mask_some.mpr ⟨fun z => n1 (z.imp id fun ⟨j, z⟩ => ⟨j, by rw [hMO] at z; exact z⟩), ?_⟩
      rw [upd_ne (fun z => n1 (.inr ⟨i, (hA q).mpr z⟩))]
      exact n2)
  exact ⟨_, x2, R2⟩
theorem tyV_lst (h : H p = some (.lst xs)) : tyV K "list" (.ref p) H := .inl ⟨rfl, _, SqL.of h⟩
theorem se_mutG {i : Nat} {P : List AE → Bool} (hm : ∀ {M H p xs l l' vs ds z} {Q : VK} {ρ1 : Env} {Ai1} , Rep cl K c.F B Ai1 ss ρ1 σ H → M = MH B Ai1 H → AllOk cl K M H σ ρ1 as vs ds → H p = some (.lst xs) → AtsL cl K M xs l → f l ds = some (l', z) →
      (∀ xs' v, AtsL cl K M xs' l' → At cl K M v z → Q v (upd H p (.lst xs'))) → r (.ref p) vs H Q)
    (ha : SA cl K c ss tA as) (hs : sh ss i = .ls .fz) (hqq : c.q = false) {Q : VK} (R : Rep cl K c.F B Ai ss ρ σ H) (p : EPost cl K c B Ai ss σ H .fz Q (eMut i f as ρ)) : tBM K "list" r (tVar i) tA σ H Q := by
  unfold eMut at p
  cases e0 : gv ρ i with
  | none => rw [e0] at p; exact p.elim
  | some d0 =>
    rw [e0] at p
    cases d0 with
    | lst l0 =>
      simp only at p
      obtain ⟨v, h1, h2⟩ := R.get (gv_some e0)
      rw [hs] at h2
      obtain ⟨q, xs, rfl, hq, _, _⟩ := h2.lsFz
      refine ⟨.ref q, h1, tyV_lst hq, ha.use R (fun ds ρ1 e1 vs Ai1 H1 x1 R1 ok => ?_) (fun x ρ1 e1 => by rw [e1] at p; exact p) fun e1 => by rw [e1] at p; exact p⟩
      simp only [e1, Er.bind] at p
      cases e2 : gv ρ1 i with
      | none => rw [e2] at p; exact p.elim
      | some d1 =>
        rw [e2] at p
        cases d1 with
        | lst l =>
          simp only at p
          cases e3 : f l ds with
          | none => rw [e3] at p; exact p.elim
          | some lz =>
            obtain ⟨l', z⟩ := lz
            rw [e3] at p
            simp only at p
            obtain ⟨v', g1, g2⟩ := R1.get (gv_some e2)
            rw [h1] at g1
            cases g1
            rw [hs] at g2
            obtain ⟨q', ys, eq, hq', hys, _⟩ := g2.lsFz
            cases eq
            refine hm R1 rfl ok hq' hys e3 fun xs' v hx hv => ?_
            obtain ⟨Ai2, x2', R2⟩ := R1.mut hs (gv_some e2) h1 hx
            have x2 := x2'.fq hqq
            obtain ⟨Ai3, x3, R3, o3⟩ := R2.res (.old (hv.mono x2.same))
            exact p v Ai3 _ ((x1.trans x2).trans x3) R3 o3
        | _ => exact p.elim
    | _ => exact p.elim
theorem se_mut {i : Nat} (hm : MutS cl K f r) (ha : SA cl K c ss tA as) (hs : sh ss i = .ls .fz := by rfl) (hf : flatAs ss as = true := by rfl) (hqq : c.q = false := by rfl) : SE cl K c ss .fz (tBM K "list" r (tVar i) tA) (eMut i f as) := fun B Ai ρ σ H Q R p =>
  se_mutG (P := fun _ => true) (fun R1 eM ok hp hl e q => by subst eM; exact hm _ _ _ _ _ _ _ _ _ _ mask_same hp hl (ok.bors R1 hf) e q) ha hs hqq R p
theorem se_mutA {i : Nat} (hm : MutA cl K f r) (ha : SA cl K c ss tA as) (hs : sh ss i = .ls .fz := by rfl) (hf : valAs as = true := by rfl) (hqq : c.q = false := by rfl) : SE cl K c ss .fz (tBM K "list" r (tVar i) tA) (eMut i f as) := fun B Ai ρ σ H Q R p =>
  se_mutG (P := fun _ => true) (fun R1 eM ok hp hl e q => by subst eM; exact hm _ _ _ _ _ _ _ _ _ _ mask_same hp hl (ok.ats hf) e q) ha hs hqq R p
theorem se_mut0 {i : Nat} (hm : MutS cl K f r) (hs : sh ss i = .ls .fz := by rfl) (hqq : c.q = false := by rfl) : SE cl K c ss .fz (tBM0 K "list" r (tVar i)) (eMut i f []) := fun B Ai ρ σ H Q R p => by
  have := se_mut hm (c := c) sa_nil hs rfl hqq B Ai ρ σ H Q R p
  exact this
/-- the methods -/
def appD (l ds : List Dt) : Option (List Dt × Dt) := match ds with | [d] => if l.length < 16777216 then some (l ++ [d], .non) else none | _ => none
theorem AtsL.app {xs ys : List V} {l m : List Dt} (h : AtsL cl K M xs l) (h2 : AtsL cl K M ys m) : AtsL cl K M (xs ++ ys) (l ++ m) := by
  refine ⟨by simp [h.1, h2.1], fun i v d e1 e2 => ?_⟩
  rcases Nat.lt_or_ge i xs.length with q | q
  · rw [List.getElem?_append_left q] at e1
    rw [List.getElem?_append_left (by rw [← h.1]; exact q)] at e2
    exact h.2 i v d e1 e2
  · rw [List.getElem?_append_right q] at e1
    rw [List.getElem?_append_right (by rw [← h.1]; exact q), ← h.1] at e2
    exact h2.2 _ v d e1 e2
theorem mut_app : MutA cl K appD rAppend := fun M H p xs l l' vs ds z Q sm hp hl hv e q => by
  unfold appD at e
  split at e
  · rename_i d
    split at e
    · rename_i hz
      cases e
      obtain ⟨h1, h2⟩ := hv
      match vs, h1 with
      | [v], _ => exact ⟨p, xs, v, rfl, rfl, hp, line_lt (by rw [hl.1]; exact hz), q _ _ (hl.app ⟨rfl, h2⟩) .non⟩
    · cases e
  · cases e
end
section
variable {cl : Str → Option Addr} {K : PySem.W.Frag} {c : Fx} {F : FP} {B : Addr → Prop} {Ai Ai' Ai1 Ai2 : Nat → Addr → Prop} {ss ss' ps : Ss} {ρ ρ' : Env} {σ σ' σ1 : L2.St} {M H H' H1 H2 : Hp} {v : V} {d : Dt} {s rs : Sh} {A : Addr → Prop}
  {t ta tb te ti : TE} {e e' a b k : EM Dt} {tA : TA} {as : List AE} {vs dvs : List V} {ds dds l l' : List Dt} {xs xs' ys : List V} {f : List Dt → List Dt → Option (List Dt × Dt)} {u1 u2 : TS} {s1 s2 : SM} {D : Ends} {p : Addr} {r : V → List V → Hp → VK → Prop}
theorem AtsL.take (h : AtsL cl K M xs l) (n : Nat) : AtsL cl K M (xs.take n) (l.take n) := ⟨by simp [h.1], fun i v d e1 e2 => by
  rw [List.getElem?_take] at e1 e2
  split at e1
  · rename_i q; rw [if_pos q] at e2; exact h.2 i v d e1 e2
  · cases e1⟩
theorem AtsL.drop (h : AtsL cl K M xs l) (n : Nat) : AtsL cl K M (xs.drop n) (l.drop n) := ⟨by simp [h.1], fun i v d e1 e2 => by
  rw [List.getElem?_drop] at e1 e2
  exact h.2 _ v d e1 e2⟩
theorem AtsL.set (h : AtsL cl K M xs l) (j : Nat) (hv : At cl K M v d) : AtsL cl K M (xs.set j v) (l.set j d) := ⟨by simp [h.1], fun i v' d' e1 e2 => by
  by_cases hij : j = i
  · subst hij
    have h1 : j < xs.length := by have := (List.getElem?_eq_some_iff.mp e1).1; simpa using this
    rw [List.getElem?_set_self h1] at e1
    rw [List.getElem?_set_self (h.1 ▸ h1)] at e2
    cases e1; cases e2; exact hv
  · rw [List.getElem?_set_ne hij] at e1 e2
    exact h.2 i v' d' e1 e2⟩
theorem AtsL.at (h : AtsL cl K M xs l) {i : Nat} (e : l[i]? = some d) : ∃ v, xs[i]? = some v ∧ At cl K M v d := by
  have hi : i < xs.length := by rw [h.1]; exact (List.getElem?_eq_some_iff.mp e).1
  exact ⟨xs[i], List.getElem?_eq_getElem hi, h.2 i _ d (List.getElem?_eq_getElem hi) e⟩
theorem AtsL.one (hv : At cl K M v d) : AtsL cl K M [v] [d] := ⟨rfl, fun i v' d' e1 e2 => by
  cases i with
  | zero => cases e1; cases e2; exact hv
  | succ i => simp at e1⟩
theorem AtsL.mono (sm : Same M H) (h : AtsL cl K M xs l) : AtsL cl K H xs l := ⟨h.1, fun i v d a b => (h.2 i v d a b).mono sm⟩
theorem Bor.lstA {l : List Dt} (sm : Same M H) (h : Bor cl K M H v (.lst l)) : ∃ a xs, v = .ref a ∧ H a = some (.lst xs) ∧ AtsL cl K M xs l := by
  obtain ⟨a, xs, h1, h2, h3⟩ := h.lst sm
  exact ⟨a, xs, h1, h2, h3⟩
theorem Bor.tupA {l : List Dt} (sm : Same M H) (h : Bor cl K M H v (.tup l)) : ∃ a xs, v = .ref a ∧ SqT K H a xs ∧ AtsL cl K M xs l := by
  obtain ⟨a, xs, h1, h2, h3⟩ := h.tup sm
  exact ⟨a, xs, h1, h2, h3⟩
theorem Bor.lstsA {l : List Dt} {d : Dt} (sm : Same M H) (h : Bor cl K M H v d) (e : lstI d = some l) : ∃ a xs, v = .ref a ∧ SqL K H a xs ∧ AtsL cl K M xs l := by
  obtain ⟨a, xs, h1, h2, h3⟩ := h.lsts sm e
  exact ⟨a, xs, h1, h2, h3⟩
def extD (l ds : List Dt) : Option (List Dt × Dt) := match ds with | [.lst m] => if l.length + m.length ≤ 16777216 then some (l ++ m, .non) else none | _ => none
theorem mut_ext : MutS cl K extD rExtend := fun M H p xs l l' vs ds z Q sm hp hl hb e q => by
  unfold extD at e
  split at e
  · rename_i m
    split at e
    · rename_i hz
      cases e
      obtain ⟨v, rfl, h⟩ := hb.one
      obtain ⟨a, ys, rfl, h1, h2⟩ := h.lstA sm
      exact ⟨p, a, xs, ys, rfl, rfl, hp, h1, line_of (by rw [hl.1, h2.1]; exact hz), q _ _ (hl.app h2) .non⟩
    · cases e
  · cases e
def popD (l ds : List Dt) : Option (List Dt × Dt) := match ds with | [] => (match l[l.length - 1]? with | some d => some (l.dropLast, d) | none => none) | _ => none
theorem mut_pop : MutS cl K popD rPop := fun M H p xs l l' vs ds z Q sm hp hl hb e q => by
  unfold popD at e
  split at e
  · split at e
    · rename_i d hd
      cases e
      cases hb
      rw [← hl.1] at hd
      obtain ⟨v, h1, h2⟩ := hl.at hd
      refine ⟨p, xs, v, rfl, rfl, hp, h1, q _ _ ?_ h2⟩
      rw [List.dropLast_eq_take, List.dropLast_eq_take, hl.1]
      exact hl.take _
    · cases e
  · cases e
def popAtD (l ds : List Dt) : Option (List Dt × Dt) := match ds with
  | [.int i] => if inR i then (match seqIndex? i l.length with | some k => (match l[k]? with | some d => some (l.eraseIdx k, d) | none => none) | none => none) else none
  | _ => none
theorem mut_popAt : MutS cl K popAtD rPopAt := fun M H p xs l l' vs ds z Q sm hp hl hb e q => by
  unfold popAtD at e
  split at e
  · rename_i i
    split at e
    · rename_i hi
      split at e
      · rename_i j hj
        split at e
        · rename_i d hd
          cases e
          obtain ⟨w, rfl, h⟩ := hb.one
          obtain rfl := h.int
          obtain ⟨v, h1, h2⟩ := hl.at hd
          obtain ⟨i1, i2⟩ := inR_at hi
          refine ⟨p, xs, i, j, v, rfl, rfl, hp, by omega, by omega, by rw [hl.1]; exact hj, h1, q _ _ ?_ h2⟩
          rw [List.eraseIdx_eq_take_drop_succ, List.eraseIdx_eq_take_drop_succ]
          exact (hl.take _).app (hl.drop _)
        · cases e
      · cases e
    · cases e
  · cases e
abbrev rInsert : V → List V → Hp → VK → Prop := fun x vs H Q => ∃ (l : Addr) (xs : List V) (i : Int) (y : V), x = .ref l ∧ vs = [.int i, y] ∧ H l = some (.lst xs) ∧ xs.length < sizeLine ∧ 0 ≤ i ∧ i < 2 ^ 63 ∧
    Q .non (upd H l (.lst (xs.take i.toNat ++ [y] ++ xs.drop i.toNat)))
def insD (l ds : List Dt) : Option (List Dt × Dt) := match ds with
  | [.int i, d] => if 0 ≤ i ∧ i < 4611686018427387904 ∧ l.length < 16777216 then some (l.take i.toNat ++ [d] ++ l.drop i.toNat, .non) else none
  | _ => none
theorem mut_ins : MutA cl K insD rInsert := fun M H p xs l l' vs ds z Q sm hp hl hv e q => by
  unfold insD at e
  split at e
  · rename_i i d
    split at e
    · rename_i hz
      obtain ⟨z1, z2, z3⟩ := hz
      cases e
      obtain ⟨h1, h2⟩ := hv
      match vs, h1 with
      | [w, v], _ =>
        obtain rfl := Bor.int (.at (h2 0 w _ rfl rfl)) (H := H)
        exact ⟨p, xs, i, v, rfl, rfl, hp, line_lt (by rw [hl.1]; exact z3), z1, by omega, q _ _ (((hl.take _).app (.one (h2 1 v d rfl rfl))).app (hl.drop _)) .non⟩
    · cases e
  · cases e
/-- xs[i] = e -/
def sPut (i : Nat) (k : EM Dt) (e : EM Dt) : SM := fun ρ => (e ρ).go fun d ρ1 => if (gv ρ1 i).isSome then (k ρ1).go fun z ρ2 => (match gv ρ2 i, z with
  | some (.lst l), .int n => (match ixN l.length n with | some j => .nx (ρ2.set i (some (.lst (l.set j d)))) | none => .stuck)
  | _, _ => .stuck) else .stuck
theorem ss_put {i : Nat} (h : SE cl K c ss .fz te e) (hk : SE cl K c ss .fz ti k) (hs : sh ss i = .ls .fz := by rfl) (hqq : c.q = false := by rfl) : SS cl K c ss ss (tAsg te (gSub (tVar i) ti rSetL)) (sPut i k e) := fun B Ai ρ σ H D R p => by
  unfold sPut at p
  refine h.use R (fun d ρ1 e1 v Ai1 H1 x1 R1 o1 => ?_) (fun x ρ1 e1 => by rw [e1] at p; exact p) fun e1 => by rw [e1] at p; exact p
  simp only [e1, Er.go] at p
  cases e0 : gv ρ1 i with
  | none => rw [e0] at p; exact p.elim
  | some d0 =>
    simp only [e0, Option.isSome_some, if_true] at p
    obtain ⟨w, w1, w2⟩ := R1.get (gv_some e0)
    refine ⟨w, w1, hk.use R1 (fun z ρ2 e2 u Ai2 H2 x2 R2 o2 => ?_) (fun x ρ2 e2 => by rw [e2] at p; exact XPost.ext x1 p) fun e2 => by rw [e2] at p; exact p⟩
    simp only [e2] at p
    split at p
    · rename_i l n ed
      split at p
      · rename_i j hj
        obtain ⟨w', g1, g2⟩ := R2.get (gv_some ed)
        rw [w1] at g1
        cases g1
        rw [hs] at g2
        obtain ⟨q, xs, rfl, hq, hxs, _⟩ := g2.lsFz
        obtain rfl := Bor.int (.at o2.fzAt.1) (H := H2)
        obtain ⟨Ai3, x3', R3⟩ := R2.mut hs (gv_some ed) w1 (hxs.set j (o1.fzAt.1.mono x2.same))
        have x3 := x3'.fq hqq
        exact ⟨q, xs, n, j, rfl, rfl, hq, by rw [hxs.1]; exact hj, p σ Ai3 _ ((x1.trans x2).trans x3) R3 fun _ _ => rfl⟩
      · exact p.elim
    · exact p.elim
/-! ### an object that a name holds: its fields -/
theorem lookup_putFD {g h : Str} : ∀ {fs : List (Str × Dt)}, (setFD g d fs).lookup h = if h = g then some d else fs.lookup h
  | [] => by
    unfold setFD
    by_cases e : h = g
    · subst e; simp [List.lookup_cons]
    · simp [List.lookup_cons, e, show (h == g) = false by simpa using e]
  | (k, x) :: r => by
    unfold setFD
    by_cases e : k = g
    · subst e
      rw [if_pos rfl]
      by_cases e2 : h = k
      · subst e2; simp [List.lookup_cons]
      · simp [List.lookup_cons, e2, show (h == k) = false by simpa using e2]
    · rw [if_neg e, List.lookup_cons, List.lookup_cons]
      by_cases e2 : h = k
      · subst e2
        rw [if_neg e]; simp
      · rw [show (h == k) = false by simpa using e2]
        exact lookup_putFD
theorem setFD_len {g : Str} : ∀ {xs : List (Str × V)} {ds : List (Str × Dt)}, xs.length = ds.length → (xs.lookup g).isSome = (ds.lookup g).isSome → (putF g v xs).length = (setFD g d ds).length := by
  have h1 : ∀ {xs : List (Str × V)}, (putF g v xs).length = if (xs.lookup g).isSome = true then xs.length else xs.length + 1 := by
    intro xs
    induction xs with
    | nil => rfl
    | cons q r ih =>
      obtain ⟨k, x⟩ := q
      unfold putF
      by_cases e : k = g
      · subst e; simp [List.lookup_cons]
      · rw [if_neg e, List.lookup_cons, show (g == k) = false by simpa using fun z => e z.symm]
        simp only [List.length_cons, ih]
        split <;> rfl
  have h2 : ∀ {xs : List (Str × Dt)}, (setFD g d xs).length = if (xs.lookup g).isSome = true then xs.length else xs.length + 1 := by
    intro xs
    induction xs with
    | nil => rfl
    | cons q r ih =>
      obtain ⟨k, x⟩ := q
      unfold setFD
      by_cases e : k = g
      · subst e; simp [List.lookup_cons]
      · rw [if_neg e, List.lookup_cons, show (g == k) = false by simpa using fun z => e z.symm]
        simp only [List.length_cons, ih]
        split <;> rfl
  intro xs ds hl hg
  rw [h1, h2, hl, hg]
end
section
variable {cl : Str → Option Addr} {K : PySem.W.Frag} {c : Fx} {F : FP} {B : Addr → Prop} {Ai Ai' Ai1 Ai2 : Nat → Addr → Prop} {ss ss' ps : Ss} {ρ ρ' : Env} {σ σ' σ1 : L2.St} {M H H' H1 H2 : Hp} {v : V} {d d' : Dt} {s s' rs : Sh} {A : Addr → Prop}
  {t ta tb te ti : TE} {e e' a b k : EM Dt} {tA : TA} {as : List AE} {vs dvs : List V} {ds dds l l' : List Dt} {xs xs' ys : List V} {f : List Dt → List Dt → Option (List Dt × Dt)} {u1 u2 : TS} {s1 s2 : SM} {D : Ends} {p : Addr} {r : V → List V → Hp → VK → Prop} {o o' : HO} {g : Str}
theorem Own.flat (h : Own cl K M H s v d A) (hf : flatSh s = true) (hn : s ≠ .fz) : ∃ p o, v = .ref p ∧ H p = some o ∧ hoSh o = s ∧ NewO cl K M p o d ∧ ∀ a, A a ↔ a = p := by
  cases h with
  | fz => exact absurd rfl hn
  | @ls p s xs ds _ Ak h1 h2 h3 h4 h5 h6 h7 =>
    cases s with
    | fz =>
      refine ⟨p, _, rfl, h1, rfl, .lst h2 fun i v d a b => (h3 i v d a b).fzAt.1, fun a => ⟨fun z => ?_, fun z => (h6 a).mpr (.inl z)⟩⟩
      rcases (h6 a).mp z with z | ⟨i, z⟩
      · exact z
      · have hi := h7 i a z
        exact ((h3 i _ _ (List.getElem?_eq_getElem hi) (List.getElem?_eq_getElem (h2 ▸ hi))).fzAt.2 a z).elim
    | _ => cases hf
  | @dc p s xs ds _ Ak h1 h2 hk h3 h4 h5 h6 h7 =>
    cases s with
    | fz =>
      refine ⟨p, _, rfl, h1, rfl, .dic h2 hk fun i k v kd d a b => (h3 i k v kd d a b).fzAt.1, fun a => ⟨fun z => ?_, fun z => (h6 a).mpr (.inl z)⟩⟩
      rcases (h6 a).mp z with z | ⟨i, z⟩
      · exact z
      · have hi := h7 i a z
        exact ((h3 i _ _ _ _ (List.getElem?_eq_getElem hi) (List.getElem?_eq_getElem (h2 ▸ hi))).fzAt.2 a z).elim
    | _ => cases hf
  | @dt p s xs ds _ Ak h1 h2 hk h3 h4 h5 h6 h7 =>
    cases s with
    | fz =>
      refine ⟨p, _, rfl, h1, rfl, .dit h2 hk fun i k b v kd d x y => (h3 i k b v kd d x y).fzAt.1, fun a => ⟨fun z => ?_, fun z => (h6 a).mpr (.inl z)⟩⟩
      rcases (h6 a).mp z with z | ⟨i, z⟩
      · exact z
      · have hi := h7 i a z
        exact ((h3 i _ _ _ _ _ (List.getElem?_eq_getElem hi) (List.getElem?_eq_getElem (h2 ▸ hi))).fzAt.2 a z).elim
    | _ => cases hf
  | ob _ ho =>
    cases s with
    | ob => cases hf
    | of _ _ _ => cases hf
    | _ => cases ho
theorem NewO.ownA (h : NewO cl K M p o d) (hs : hoSh o ≠ .fz) (e : H p = some o) (hA : ∀ a, A a ↔ a = p) : Own cl K M H (hoSh o) (.ref p) d A := by
  have : A = fun a => a = p := by funext a; exact propext (hA a)
  rw [this]
  exact h.own hs e
theorem setA_id {i : Nat} : setA Ai i (Ai i) = Ai := by
  funext q
  by_cases z : q = i
  · subst z; rw [setA_same]
  · rw [setA_ne z]
/-- a flat thing at the name i gets other contents -/
theorem Rep.mutN (R : Rep cl K F B Ai ss ρ σ H) {i : Nat} (hi : ρ[i]? = some (some d)) (hv : σ[i]? = some (some (.ref p))) (hA : ∀ a, Ai i a ↔ a = p) (hs : sh ss i ≠ .fz) (ho : hoSh o = sh ss i) (hl : NewO cl K (MH B Ai H) p o d') :
    ∃ Ai', Ext false B Ai H Ai' (upd H p o) ∧ Rep cl K F B Ai' ss (ρ.set i (some d')) σ (upd H p o) := by
  have hil : i < ρ.length := (List.getElem?_eq_some_iff.mp hi).1
  obtain ⟨R2, x2⟩ := R.step (q := false) (k := i) (A := Ai i) (H' := upd H p o) (ρ' := ρ.set i (some d')) (σ' := σ) (ss' := ss) (fun a z => .inl z)
    (fun a z => by rw [(hA a).mp z, upd_same]; exact fun z => nomatch z) (fun a o na e => by rw [upd_ne (fun z => na ((hA a).mpr z))]; exact e) (by simpa using R.len) (fun _ _ => rfl) (fun z => nomatch z)
    (fun j d e hj => by
      rw [List.getElem?_set_ne (Ne.symm hj)] at e
      obtain ⟨v, q1, q2⟩ := R.row j d e
      exact ⟨v, q1, .inl ⟨e, q1, rfl⟩⟩)
    (fun d e => by
      rw [List.getElem?_set_self hil] at e
      cases e
      refine ⟨.ref p, hv, ?_⟩
      rw [setA_id, ← ho]
      refine NewO.ownA (hl.mono fun q u e => ?_) (ho ▸ hs) upd_same hA
      obtain ⟨n1, n2⟩ := mask_some.mp e
      refine mask_some.mpr ⟨n1, ?_⟩
      rw [upd_ne (fun z => n1 (.inr ⟨i, (hA q).mpr z⟩))]
      exact n2)
  exact ⟨_, x2, R2⟩
theorem fldD_some {o : Dt} (h : fldD o g = some d) : ∃ cn fs, o = .obj cn fs ∧ fs.lookup g = some d := by
  cases o with
  | obj cn fs => exact ⟨cn, fs, rfl, h⟩
  | _ => cases h
/-- .. in a field of the object at the name i -/
theorem Rep.mutFN (R : Rep cl K F B Ai ss ρ σ H) {i : Nat} {cn : Str} {fs : List (Str × Dt)} {q : Addr} (hi : ρ[i]? = some (some (.obj cn fs))) (hob : (sh ss i).isOb = true) (hg : fs.lookup g = some d) (hfl : flatSh ((sh ss i).fld g) = true) (hs : (sh ss i).fld g ≠ .fz)
    (hq : ∃ p C dx xs, σ[i]? = some (some (.ref p)) ∧ H p = some (.ins C dx xs) ∧ xs.lookup g = some (.ref q)) (ho : hoSh o = (sh ss i).fld g) (hl : NewO cl K (MH B Ai H) q o d') :
    ∃ Ai', Ext false B Ai H Ai' (upd H q o) ∧ Rep cl K F B Ai' ss (ρ.set i (some (.obj cn (setFD g d' fs)))) σ (upd H q o) := by
  obtain ⟨p, C, dx, xs, hv, hp, hx⟩ := hq
  have hil : i < ρ.length := (List.getElem?_eq_some_iff.mp hi).1
  obtain ⟨v, h1, h2⟩ := R.row i _ hi
  rw [hv] at h1
  cases h1
  obtain ⟨S, eS⟩ : ∃ S, S = sh ss i := ⟨_, rfl⟩
  obtain ⟨A0, eA⟩ : ∃ A0, A0 = Ai i := ⟨_, rfl⟩
  rw [← eS, ← eA] at h2
  rw [← eS] at hob hfl hs ho
  cases h2 with
  | fz => cases hob
  | @ob _ C' dx' _ _ ys _ _ Ak _ g1 gC g2 gk g3 g4 g5 g6 g7 =>
    rw [hp] at g1
    cases g1
    obtain ⟨q', u, e1, e2, e3, e4, e5⟩ := (g3 g _ d hx hg).flat hfl hs
    cases e1
    have qp : q ≠ p := fun z => g5 g (by rw [e5]; exact z.symm)
    have hA : ∀ a, Ai i a → a = q ∨ a ≠ q := fun a _ => by by_cases z : a = q <;> simp [z]
    have qi : Ai i q := by rw [← eA]; exact (g6 q).mpr (.inr ⟨g, (e5 q).mpr rfl⟩)
    obtain ⟨R2, x2⟩ := R.step (q := false) (k := i) (A := Ai i) (H' := upd H q o) (ρ' := ρ.set i (some (.obj cn (setFD g d' fs)))) (σ' := σ) (ss' := ss) (fun a z => .inl z)
      (fun a z => by
        by_cases w : a = q
        · rw [w, upd_same]; exact fun z => nomatch z
        · rw [upd_ne w]; exact R.al i a z) (fun a o na e => by rw [upd_ne (show a ≠ q from fun z => na (by rw [z]; exact qi))]; exact e) (by simpa using R.len) (fun _ _ => rfl) (fun z => nomatch z)
      (fun j d e hj => by
        rw [List.getElem?_set_ne (Ne.symm hj)] at e
        obtain ⟨v, q1, q2⟩ := R.row j d e
        exact ⟨v, q1, .inl ⟨e, q1, rfl⟩⟩)
      (fun z e => by
        rw [List.getElem?_set_self hil] at e
        cases e
        refine ⟨.ref p, hv, ?_⟩
        have sm : Same (MH B Ai H) (MH B Ai (upd H q o)) := fun w u e => by
          obtain ⟨n1, n2⟩ := mask_some.mp e
          refine mask_some.mpr ⟨n1, ?_⟩
          rw [upd_ne (show w ≠ q from fun z => n1 (.inr ⟨i, by rw [z]; exact qi⟩))]
          exact n2
        have sg : ∀ k, ((setFD g d' fs).lookup k).isSome = (fs.lookup k).isSome := fun k => by
          rw [lookup_putFD]
          by_cases z : k = g
          · subst z; rw [if_pos rfl, hg]; rfl
          · rw [if_neg z]
        rw [setA_id, ← eS]
        have hlen : (setFD g d' fs).length = fs.length := by
          have hh := setFD_len (v := V.non) (d := d') (g := g) g2 (by rw [hx, hg]; rfl)
          have h2 := setFD_len (v := V.non) (d := d) (g := g) g2 (by rw [hx, hg]; rfl)
          have h3 : ∀ {fs : List (Str × Dt)}, fs.lookup g = some d → (setFD g d fs).length = fs.length := by
            intro fs h
            induction fs with
            | nil => cases h
            | cons y r ih =>
              obtain ⟨k, x⟩ := y
              unfold setFD
              by_cases z : k = g
              · rw [if_pos z]; rfl
              · rw [if_neg z]
                rw [List.lookup_cons, show (g == k) = false by simpa using fun w => z w.symm] at h
                simp [ih h]
          rw [← hh, h2, h3 hg]
        refine .ob Ak hob (by rw [upd_ne (Ne.symm qp)]; exact hp) gC (by rw [hlen]; exact g2) (fun k => by rw [sg, gk]) (fun k v z a b => ?_) g4 g5 (by rw [← eA]; exact g6) g7
        rw [lookup_putFD] at b
        by_cases w : k = g
        · subst w
          rw [if_pos rfl] at b
          cases b
          rw [hx] at a
          cases a
          rw [← ho]
          exact NewO.ownA (hl.mono sm) (ho ▸ hs) upd_same e5
        · rw [if_neg w] at b
          exact (g3 k v z a b).mono sm fun y hy => upd_ne (show y ≠ q from fun z => w (g4 k g q (by rw [← z]; exact hy) ((e5 q).mpr rfl))))
    exact ⟨_, x2, R2⟩
  | _ => cases hob
/-- a field is set: to what is at hand -/
theorem Rep.setF (R : Rep cl K F B Ai ss ρ σ H) {i : Nat} {cn : Str} {fs : List (Str × Dt)} {C dx : Addr} {xs : List (Str × V)} (hi : ρ[i]? = some (some (.obj cn fs))) (hob : (sh ss i).isOb = true) (hv : σ[i]? = some (some (.ref p))) (hp : H p = some (.ins C dx xs))
    (h : Own cl K (MH B Ai H) H s v d (Ai σ.length)) (hs : okSet ss i s' ss' = true) (hs' : s' = .of g s (sh ss i) ∨ ((sh ss i).fld g = s ∧ s' = sh ss i)) :
    ∃ Ai', Ext false B Ai H Ai' (upd H p (.ins C dx (putF g v xs))) ∧ Rep cl K F B Ai' ss' (ρ.set i (some (.obj cn (setFD g d fs)))) σ (upd H p (.ins C dx (putF g v xs))) := by
  obtain ⟨w1, w2⟩ := okSet_at hs
  have hil : i < ρ.length := (List.getElem?_eq_some_iff.mp hi).1
  have hiσ : i < σ.length := by rw [← R.len]; exact hil
  obtain ⟨v0, h1, h2⟩ := R.row i _ hi
  rw [hv] at h1
  cases h1
  obtain ⟨S, eS⟩ : ∃ S, S = sh ss i := ⟨_, rfl⟩
  obtain ⟨A0, eA⟩ : ∃ A0, A0 = Ai i := ⟨_, rfl⟩
  rw [← eS, ← eA] at h2
  rw [← eS] at hob hs'
  have hob' : s'.isOb = true := by rcases hs' with z | ⟨_, z⟩ <;> rw [z] <;> exact hob
  have hfld : ∀ k, s'.fld k = if k = g then s else S.fld k := fun k => by
    rcases hs' with z | ⟨y, z⟩
    · rw [z]; show (if g = k then s else S.fld k) = _
      by_cases q : k = g
      · subst q; simp
      · rw [if_neg q, if_neg (Ne.symm q)]
    · rw [z]
      by_cases q : k = g
      · subst q; rw [if_pos rfl, y]
      · rw [if_neg q]
  cases h2 with
  | fz => cases hob
  | @ob _ C' dx' _ _ ys _ _ Ak _ g1 gC g2 gk g3 g4 g5 g6 g7 =>
    rw [hp] at g1
    cases g1
    obtain ⟨Ak', eAk⟩ : ∃ Ak' : Str → Addr → Prop, Ak' = fun k => if k = g then Ai σ.length else Ak k := ⟨_, rfl⟩
    obtain ⟨Aj, eAj⟩ : ∃ Aj : Nat → Addr → Prop, Aj = fun j a => (j = i ∧ (a = p ∨ ∃ k, Ak' k a)) ∨ (j ≠ i ∧ j ≠ σ.length ∧ Ai j a) := ⟨_, rfl⟩
    have subk : ∀ {k a}, Ak' k a → (k = g ∧ Ai σ.length a) ∨ (k ≠ g ∧ Ak k a) := fun {k a} z => by
      rw [eAk] at z
      by_cases q : k = g
      · simp only [q, if_true] at z; exact .inl ⟨q, z⟩
      · simp only [q, if_false] at z; exact .inr ⟨q, z⟩
    have inI : ∀ {k a}, Ak k a → Ai i a := fun z => by rw [← eA]; exact (g6 _).mpr (.inr ⟨_, z⟩)
    have pI : Ai i p := by rw [← eA]; exact (g6 p).mpr (.inl rfl)
    have nl : i ≠ σ.length := Nat.ne_of_lt hiσ
    have sub : ∀ {j a}, Aj j a → (j = i ∧ (Ai i a ∨ Ai σ.length a)) ∨ (j ≠ i ∧ j ≠ σ.length ∧ Ai j a) := fun {j a} z => by
      rw [eAj] at z
      rcases z with ⟨z, y⟩ | z
      · refine .inl ⟨z, ?_⟩
        rcases y with y | ⟨k, y⟩
        · exact .inl (y ▸ pI)
        · rcases subk y with ⟨_, y⟩ | ⟨_, y⟩
          · exact .inr y
          · exact .inl (inI y)
      · exact .inr z
    have any : ∀ {j a}, Aj j a → ∃ j, Ai j a := fun z => by
      rcases sub z with ⟨_, y | y⟩ | ⟨_, _, y⟩
      · exact ⟨_, y⟩
      · exact ⟨_, y⟩
      · exact ⟨_, y⟩
    have pe : ∀ a, a ≠ p → upd H p (.ins C dx (putF g v xs)) a = H a := fun a h => upd_ne h
    have x : Ext false B Ai H Aj (upd H p (.ins C dx (putF g v xs))) := ⟨fun a hb => pe a fun z => R.nb i p pI (by rw [← z]; exact hb), fun a o _ na e => ⟨fun j z => let ⟨k, y⟩ := any z; na k y, (pe a fun z => na i (by rw [z]; exact pI)).trans e⟩, fun z => nomatch z⟩
    refine ⟨Aj, x, ⟨by simpa using R.len, fun j z e => ?_, fun j k a y1 y2 => ?_, fun j a y => let ⟨k, z⟩ := any y; R.nb k a z, fun j a y => ?_, fun a hb => by rw [x.old a hb]; exact R.hb a hb, F.mono _ _ x.same R.fx, R.pin⟩⟩
    · by_cases hj : j = i
      · subst hj
        rw [List.getElem?_set_self hil] at e
        cases e
        refine ⟨.ref p, hv, ?_⟩
        rw [w1]
        have lk : ∀ k, (putF g v xs).lookup k = if k = g then some v else xs.lookup k := fun k => lookup_putF g k v xs
        refine .ob Ak' hob' upd_same gC (setFD_len g2 (gk g)) (fun k => ?_) (fun k u z y1 y2 => ?_) (fun k1 k2 a y1 y2 => ?_) (fun k y => ?_) (fun a => ?_) (fun k a y => ?_)
        · rw [lk, lookup_putFD]
          by_cases q : k = g
          · rw [if_pos q, if_pos q]; rfl
          · rw [if_neg q, if_neg q]; exact gk k
        · rw [lk] at y1
          rw [lookup_putFD] at y2
          rw [hfld]
          by_cases q : k = g
          · rw [if_pos q] at y1 y2 ⊢
            cases y1; cases y2
            rw [show Ak' k = Ai σ.length by rw [eAk]; simp [q]]
            exact h.mono x.same fun a ha => pe a fun z => nl (R.dj _ _ p pI (by rw [← z]; exact ha))
          · rw [if_neg q] at y1 y2 ⊢
            rw [show Ak' k = Ak k by rw [eAk]; simp [q]]
            exact (g3 k u z y1 y2).mono x.same fun a ha => pe a fun z => g5 k (by rw [← z]; exact ha)
        · rcases subk y1 with ⟨q1, z1⟩ | ⟨q1, z1⟩
          · rcases subk y2 with ⟨q2, z2⟩ | ⟨q2, z2⟩
            · rw [q1, q2]
            · exact absurd (R.dj _ _ a (inI z2) z1) nl
          · rcases subk y2 with ⟨q2, z2⟩ | ⟨q2, z2⟩
            · exact absurd (R.dj _ _ a (inI z1) z2) nl
            · exact g4 _ _ a z1 z2
        · rcases subk y with ⟨_, z⟩ | ⟨_, z⟩
          · exact nl (R.dj _ _ p pI z)
          · exact g5 k z
        · rw [eAj]
          exact ⟨fun z => z.elim (fun z => z.2) fun z => absurd rfl z.1, fun z => .inl ⟨rfl, z⟩⟩
        · rw [lk]
          rcases subk y with ⟨q, _⟩ | ⟨q, z⟩
          · rw [if_pos q]; rfl
          · rw [if_neg q]; exact g7 k a z
      · rw [List.getElem?_set_ne (Ne.symm hj)] at e
        obtain ⟨u, y1, y2⟩ := R.row j z e
        have hjl : j ≠ σ.length := fun z => by rw [z, List.getElem?_eq_none (Nat.le_refl _)] at y1; cases y1
        refine ⟨u, y1, ?_⟩
        rw [w2 j hj, show Aj j = Ai j by
          funext a
          refine propext ⟨fun z => ?_, fun z => by rw [eAj]; exact .inr ⟨hj, hjl, z⟩⟩
          rcases sub z with ⟨q, _⟩ | ⟨_, _, z⟩
          · exact absurd q hj
          · exact z]
        exact y2.mono x.same fun a ha => pe a fun z => hj (R.dj _ _ p (by rw [← z]; exact ha) pI)
    · rcases sub y1 with ⟨q1, z1⟩ | ⟨q1, m1, z1⟩
      · rcases sub y2 with ⟨q2, z2⟩ | ⟨q2, m2, z2⟩
        · rw [q1, q2]
        · rcases z1 with z1 | z1
          · exact absurd (R.dj _ _ a z2 z1) q2
          · exact absurd (R.dj _ _ a z2 z1) m2
      · rcases sub y2 with ⟨q2, z2⟩ | ⟨q2, m2, z2⟩
        · rcases z2 with z2 | z2
          · exact absurd (R.dj _ _ a z1 z2) q1
          · exact absurd (R.dj _ _ a z1 z2) m1
        · exact R.dj _ _ a z1 z2
    · by_cases q : a = p
      · rw [q, upd_same]; exact fun z => nomatch z
      · rw [pe a q]
        obtain ⟨k, z⟩ := any y
        exact R.al k a z
  | _ => cases hob
/-- self.g = e (e may be held) -/
def sFldS (i : Nat) (cs : List Str) (g : Str) (e : EM Dt) : SM := fun ρ => (e ρ).go fun d ρ1 => match gv ρ1 i with
  | some (.obj cn fs) => if cs.contains cn && decide (fs.length < 1000) then .nx (ρ1.set i (some (.obj cn (setFD g d fs)))) else .stuck
  | _ => .stuck
theorem Own.obLen {cn : Str} {fs : List (Str × Dt)} (h : Own cl K M H s v (.obj cn fs) A) (ho : s.isOb = true) : ∃ p C dx xs, v = .ref p ∧ H p = some (.ins C dx xs) ∧ cl cn = some C ∧ xs.length = fs.length ∧ ∀ k, (xs.lookup k).isSome = (fs.lookup k).isSome := by
  cases h with
  | fz => cases ho
  | @ob p C dx _ _ xs _ _ Ak _ g1 gC g2 gk => exact ⟨p, C, dx, xs, rfl, g1, gC, g2, gk⟩
theorem ss_fld {i : Nat} {cs : List Str} (hc : FldOk cl K cs g) (h : SE cl K c ss s te e) (hob : (sh ss i).isOb = true := by rfl) (hs' : s' = .of g s (sh ss i) ∨ ((sh ss i).fld g = s ∧ s' = sh ss i) := by first | exact .inr ⟨rfl, rfl⟩ | exact .inl rfl) (hs : okSet ss i s' ss' = true := by rfl) (hqq : c.q = false := by rfl) :
    SS cl K c ss ss' (sFld K (tVar i) te g) (sFldS i cs g e) := fun B Ai ρ σ H D R p => by
  unfold sFldS at p
  refine h.use R (fun d ρ1 e1 v Ai1 H1 x1 R1 o1 => ?_) (fun x ρ1 e1 => by rw [e1] at p; exact p) fun e1 => by rw [e1] at p; exact p
  simp only [e1, Er.go] at p
  cases e0 : gv ρ1 i with
  | none => rw [e0] at p; exact p.elim
  | some d0 =>
    rw [e0] at p
    cases d0 with
    | obj cn fs =>
      simp only at p
      split at p
      · rename_i hcn
        simp only [Bool.and_eq_true, decide_eq_true_eq] at hcn
        obtain ⟨w, w1, w2⟩ := R1.get (gv_some e0)
        obtain ⟨q, C, dx, xs, rfl, q1, q2, q3, q4⟩ := w2.obLen hob
        obtain ⟨k1, k2⟩ := hc cn hcn.1 C q2
        obtain ⟨Ai2, x2', R2⟩ := R1.setF (gv_some e0) hob w1 q1 o1 hs hs'
        have x2 := x2'.fq hqq
        exact ⟨.ref q, w1, q, C, dx, xs, rfl, q1, k1, k2, by rw [q3]; exact hcn.2, p σ Ai2 _ (x1.trans x2) R2 fun _ _ => rfl⟩
      · exact p.elim
    | _ => exact p.elim
end
abbrev Fx.quiet (c : Fx) : Fx := { c with q := true }
section
variable {cl : Str → Option Addr} {K : PySem.W.Frag} {c : Fx} {F : FP} {B : Addr → Prop} {Ai Ai' Ai1 Ai2 : Nat → Addr → Prop} {ss ss' ps : Ss} {ρ ρ' : Env} {σ σ' σ1 : L2.St} {M M' H H' H1 H2 : Hp} {v : V} {d d' : Dt} {s s' rs : Sh} {A : Addr → Prop}
  {t ta tb te ti : TE} {e e' a b k : EM Dt} {tA : TA} {as : List AE} {vs dvs : List V} {ds dds l l' : List Dt} {xs xs' ys : List V} {f : List Dt → List Dt → Option (List Dt × Dt)} {u1 u2 : TS} {s1 s2 : SM} {D : Ends} {p : Addr} {r : V → List V → Hp → VK → Prop} {o o' : HO} {g : Str}
theorem XPost.quiet {x : Ex} (p : XPost cl K c B Ai σ H x ρ') : XPost cl K c.quiet B Ai σ H x ρ' := fun cv dx σ' Ai' H' e R k h => p cv dx σ' Ai' H' (Ext.to e) R k h
theorem se_quiet (h : SE cl K c.quiet ss s t e) : SE cl K c ss s t e := fun B Ai ρ σ H Q R p => by
  refine h B Ai ρ σ H Q R ?_
  cases er : e ρ with
  | ok d ρ' => rw [er] at p; exact fun v Ai' H' x => p v Ai' H' (Ext.to x)
  | ex x ρ' => rw [er] at p; exact XPost.quiet p
  | stuck => rw [er] at p; exact p
theorem sa_fld {i : Nat} {cs : List Str} (hc : FldOk cl K cs g) (hr : SA cl K c.quiet ss tA as) (ho : (sh ss i).isOb = true := by rfl) : SA cl K c ss (tCons (tFld K (tVar i) g) tA) (.fld cs i g :: as) := fun B Ai ρ σ H Q R p => by
  unfold eArgs at p
  cases e1 : (gv ρ i).bind (fldC cs · g) with
  | none => simp [e1] at p; exact p.elim
  | some d0 =>
    simp only [e1, Option.isSome_some, if_true] at p
    obtain ⟨ob, e2, e3⟩ := Option.bind_eq_some_iff.mp e1
    obtain ⟨v, hv, how⟩ := R.get (gv_some e2)
    cases ob with
    | obj cn fs =>
      simp only [fldC] at e3
      split at e3
      · rename_i hcn
        obtain ⟨q, C, dx, xs, rfl, q1, q2, q3, q4⟩ := how.obLen ho
        obtain ⟨k1, k2⟩ := hc cn hcn C q2
        obtain ⟨w, hw⟩ := lookup_two q4 e3
        refine ⟨.ref q, hv, q, C, dx, xs, w, rfl, q1, k1, k2, hw, hr.use R (fun ds ρ2 e4 vs Ai2 H2 x2 R2 ok => ?_) (fun x ρ2 e4 => ?_) fun e4 => ?_⟩
        · simp only [e4, Er.bind] at p
          cases e5 : (gv ρ2 i).bind (fldC cs · g) with
          | none => rw [e5] at p; exact p.elim
          | some d =>
            rw [e5] at p
            obtain ⟨ob2, e6, e7⟩ := Option.bind_eq_some_iff.mp e5
            refine p (w :: vs) Ai2 H2 (Ext.to x2) R2 (.cons ⟨q, C, dx, xs, ob2, hv, e6, x2.qt rfl _ _ q1, hw, ?_⟩ ok)
            cases ob2 with
            | obj cn2 fs2 =>
              simp only [fldC] at e7
              split at e7
              · exact e7
              · cases e7
            | _ => cases e7
        · simp only [e4, Er.bind] at p; exact XPost.quiet p
        · simp only [e4, Er.bind] at p; exact p
      · cases e3
    | _ => cases e3
theorem se_mutFG {i : Nat} {cs : List Str} (hc : FldOk cl K cs g) (hm : ∀ {M H p xs l l' vs ds z} {Q : VK} {ρ1 : Env} {Ai1} , Rep cl K c.F B Ai1 ss ρ1 σ H → M = MH B Ai1 H → AllOk cl K M H σ ρ1 as vs ds → H p = some (.lst xs) → AtsL cl K M xs l → f l ds = some (l', z) →
      (∀ xs' v, AtsL cl K M xs' l' → At cl K M v z → Q v (upd H p (.lst xs'))) → r (.ref p) vs H Q)
    (ha : SA cl K c.quiet ss tA as) (ho : (sh ss i).isOb = true) (hs : (sh ss i).fld g = .ls .fz) (hqq : c.q = false) {Q : VK} (R : Rep cl K c.F B Ai ss ρ σ H) (p : EPost cl K c B Ai ss σ H .fz Q (eMutF cs i g f as ρ)) : tBM K "list" r (tFld K (tVar i) g) tA σ H Q := by
  unfold eMutF at p
  cases e0 : gv ρ i with
  | none => rw [e0] at p; exact p.elim
  | some d0 =>
    rw [e0] at p
    cases d0 with
    | obj cn fs =>
      simp only at p
      split at p
      · rename_i hcn
        cases e9 : fs.lookup g with
        | none => rw [e9] at p; exact p.elim
        | some d9 =>
          rw [e9] at p
          cases d9 with
          | lst l9 =>
            simp only at p
            obtain ⟨v, h1, h2⟩ := R.get (gv_some e0)
            obtain ⟨q, C, dx, xs, rfl, q1, q2, q3, q4⟩ := h2.obLen ho
            obtain ⟨k1, k2⟩ := hc cn hcn C q2
            obtain ⟨w, A', hw, hown⟩ := h2.field (f := g) ho q1 e9 (x := V.non)
            rw [hs] at hown
            obtain ⟨q', ys, rfl, hq', _, _⟩ := hown.lsFz
            refine ⟨.ref q, h1, q, C, dx, xs, .ref q', rfl, q1, k1, k2, hw, tyV_lst hq', ha.use R (fun ds ρ1 e1 vs Ai1 H1 x1 R1 ok => ?_) (fun x ρ1 e1 => by rw [e1] at p; exact XPost.quiet p) fun e1 => by rw [e1] at p; exact p⟩
            simp only [e1, Er.bind] at p
            cases e2 : gv ρ1 i with
            | none => rw [e2] at p; exact p.elim
            | some d1 =>
              rw [e2] at p
              cases d1 with
              | obj cn1 fs1 =>
                simp only at p
                cases e3 : fs1.lookup g with
                | none => rw [e3] at p; exact p.elim
                | some d3 =>
                  rw [e3] at p
                  cases d3 with
                  | lst l =>
                    simp only at p
                    cases e4 : f l ds with
                    | none => rw [e4] at p; exact p.elim
                    | some lz =>
                      obtain ⟨l', z⟩ := lz
                      rw [e4] at p
                      simp only at p
                      obtain ⟨v', g1, g2⟩ := R1.get (gv_some e2)
                      rw [h1] at g1
                      cases g1
                      have q1' := x1.qt rfl _ _ q1
                      obtain ⟨w2, A2, hw2, hown2⟩ := g2.field (f := g) ho q1' e3 (x := V.non)
                      rw [hw] at hw2
                      cases hw2
                      rw [hs] at hown2
                      obtain ⟨q'', zs, eq, hq2, hzs, _⟩ := hown2.lsFz
                      cases eq
                      refine hm R1 rfl ok hq2 hzs e4 fun xs' v hx hv => ?_
                      obtain ⟨Ai2, x2', R2⟩ := R1.mutFN (o := .lst xs') (gv_some e2) ho e3 (by rw [hs]; rfl) (by rw [hs]; decide) ⟨q, C, dx, xs, h1, q1', hw⟩ (by rw [hs]; rfl) (.lst hx.1 hx.2)
                      have x2 := x2'.fq hqq
                      obtain ⟨Ai3, x3, R3, o3⟩ := R2.res (.old (hv.mono x2.same))
                      exact p v Ai3 _ (((Ext.to x1).trans x2).trans x3) R3 o3
                  | _ => exact p.elim
              | _ => exact p.elim
          | _ => exact p.elim
      · exact p.elim
    | _ => exact p.elim
theorem se_mutF {i : Nat} {cs : List Str} (hc : FldOk cl K cs g) (hm : MutS cl K f r) (ha : SA cl K c.quiet ss tA as) (ho : (sh ss i).isOb = true := by rfl) (hs : (sh ss i).fld g = .ls .fz := by rfl) (hf : flatAs ss as = true := by rfl) (hqq : c.q = false := by rfl) :
    SE cl K c ss .fz (tBM K "list" r (tFld K (tVar i) g) tA) (eMutF cs i g f as) := fun B Ai ρ σ H Q R p =>
  se_mutFG hc (fun R1 eM ok hp hl e q => by subst eM; exact hm _ _ _ _ _ _ _ _ _ _ mask_same hp hl (ok.bors R1 hf) e q) ha ho hs hqq R p
theorem se_mutFA {i : Nat} {cs : List Str} (hc : FldOk cl K cs g) (hm : MutA cl K f r) (ha : SA cl K c.quiet ss tA as) (ho : (sh ss i).isOb = true := by rfl) (hs : (sh ss i).fld g = .ls .fz := by rfl) (hf : valAs as = true := by rfl) (hqq : c.q = false := by rfl) :
    SE cl K c ss .fz (tBM K "list" r (tFld K (tVar i) g) tA) (eMutF cs i g f as) := fun B Ai ρ σ H Q R p =>
  se_mutFG hc (fun R1 eM ok hp hl e q => by subst eM; exact hm _ _ _ _ _ _ _ _ _ _ mask_same hp hl (ok.ats hf) e q) ha ho hs hqq R p
/-! ### methods of own classes; new instances -/
/-- o.m(..), o of the class cn -/
def isC (cn m : Str) : Dt → Bool
  | .obj c fs => c == cn && (fs.lookup m).isNone
  | _ => false
def eMethO (cn m : Str) (f : List Dt → Fq) (i : Nat) (as : List AE) (dds : List Dt) : EM Dt := fun ρ => if ((gv ρ i).map (isC cn m)) = some true then eCall f (.own i :: as) dds ρ else .stuck
def eMethV (cn m : Str) (f : List Dt → Fq) (o : EM Dt) (as : List AE) (dds : List Dt) : EM Dt := fun ρ => (o ρ).bind fun d ρ1 => if isC cn m d = true then eCall f (.val (eC d) :: as) dds ρ1 else .stuck
theorem isC_at {cn m : Str} (h : isC cn m d = true) : ∃ fs, d = .obj cn fs ∧ fs.lookup m = none := by
  cases d with
  | obj c fs =>
    simp only [isC, Bool.and_eq_true, beq_iff_eq, Option.isNone_iff_eq_none] at h
    obtain ⟨rfl, h⟩ := h
    exact ⟨fs, rfl, h⟩
  | _ => cases h
theorem lookup_none2 {α β : Type} {xs : List (Str × α)} {ds : List (Str × β)} {m : Str} (hk : ∀ k, (xs.lookup k).isSome = (ds.lookup k).isSome) (h : ds.lookup m = none) : xs.lookup m = none := by
  have := hk m
  rw [h] at this
  cases e : xs.lookup m with
  | none => rfl
  | some v => rw [e] at this; cases this
theorem se2_methO {gs : Sg} {sz : Ss} {i : Nat} {cn m : Str} {C : Addr} {h : List Dt → Fq} (hC : cl cn = some C) (ha : SA cl K c ss tA as) (hd : Consts cl K dvs dds) (ho : (sh ss i).isOb = true := by rfl) (hk : okArgs ss gs.ps (.own i :: as) = true := by rfl) (hko : okBack ss ss' gs.po (.own i :: as) = true := by rfl) (hkx : okBack ss sz gs.px (.own i :: as) = true := by rfl)
    (l : leS c.sx sz = true := by rfl) (hqn : (!c.q || valAs (.own i :: as)) = true := by rfl) : SE2 cl K c ss ss' gs.rs (tMethS C m (spD cl K gs h) dvs (WE c.W) (tVar i) tA) (eMethO cn m h i as dds) := fun B Ai ρ σ H Q R p => by
  unfold eMethO at p
  split at p
  · rename_i hi
    cases e0 : gv ρ i with
    | none => rw [e0] at hi; cases hi
    | some d0 =>
      rw [e0] at hi
      obtain ⟨fs, rfl, hm⟩ := isC_at (Option.some.inj hi)
      obtain ⟨v, h1, h2⟩ := R.get (gv_some e0)
      obtain ⟨q, C', dx, xs, rfl, q1, q2, q3, q4⟩ := h2.obLen ho
      rw [hC] at q2
      cases q2
      refine ⟨.ref q, h1, q, dx, xs, rfl, q1, lookup_none2 q4 hm, ?_⟩
      obtain ⟨v', w1, w2⟩ := se2_call (g := gs) (f := h) (sa_own (i := i) ha) hd hk hko hkx l hqn B Ai ρ σ H Q R p
      rw [h1] at w1
      cases w1
      exact w2
  · exact p.elim
theorem se_methO {gs : Sg} {sz : Ss} {i : Nat} {cn m : Str} {C : Addr} {h : List Dt → Fq} (hC : cl cn = some C) (ha : SA cl K c ss tA as) (hd : Consts cl K dvs dds) (ho : (sh ss i).isOb = true := by rfl) (hk : okArgs ss gs.ps (.own i :: as) = true := by rfl) (hko : okBack ss ss gs.po (.own i :: as) = true := by rfl) (hkx : okBack ss sz gs.px (.own i :: as) = true := by rfl)
    (l : leS c.sx sz = true := by rfl) (hqn : (!c.q || valAs (.own i :: as)) = true := by rfl) (hrs : gs.rs = s := by rfl) : SE cl K c ss s (tMethS C m (spD cl K gs h) dvs (WE c.W) (tVar i) tA) (eMethO cn m h i as dds) := hrs ▸ se2_methO hC ha hd ho hk hko hkx l hqn
theorem se_methV {gs : Sg} {sz : Ss} {cn m : Str} {C : Addr} {h : List Dt → Fq} (hC : cl cn = some C) (he : SE cl K c ss .fz te e) (ha : SA cl K c ss tA as) (hd : Consts cl K dvs dds) (hk : okArgs ss gs.ps (.val e :: as) = true := by rfl) (hko : okBack ss ss gs.po (.val e :: as) = true := by rfl) (hkx : okBack ss sz gs.px (.val e :: as) = true := by rfl)
    (l : leS c.sx sz = true := by rfl) (hqn : (!c.q || valAs (.val e :: as)) = true := by rfl) (hrs : gs.rs = s := by rfl) : SE cl K c ss s (tMethS C m (spD cl K gs h) dvs (WE c.W) te tA) (eMethV cn m h e as dds) := by
 subst hrs; exact fun B Ai ρ σ H Q R p => by
  unfold eMethV at p
  refine he.use R (fun d ρ1 e1 v Ai1 H1 x1 R1 o1 => ?_) (fun x ρ1 e1 => by rw [e1] at p; exact p) fun e1 => by rw [e1] at p; exact p
  simp only [e1, Er.bind] at p
  split at p
  · rename_i hi
    obtain ⟨fs, rfl, hm⟩ := isC_at hi
    obtain ⟨hat, _⟩ := o1.fzAt
    have hat' := hat
    cases hat with
    | @obj q C' dx _ xs _ w1 w2 w3 w4 =>
      rw [hC] at w2
      cases w2
      refine ⟨q, dx, xs, rfl, mask_same _ _ w1, lookup_none2 w3 hm, ?_⟩
      unfold eCall eArgs at p
      simp only [eC, Er.bind] at p
      refine ha.use R1 (fun ds ρ2 e2 vs Ai2 H2 x2 R2 ok => ?_) (fun x ρ2 e2 => by simp only [e2] at p; exact XPost.ext x1 p) fun e2 => by simp only [e2] at p; exact p
      simp only [e2] at p
      have ok' : AllOk cl K (MH B Ai2 H2) H2 σ ρ2 (.val e :: as) (.ref q :: vs) (.obj cn fs :: ds) := .cons (hat'.mono x2.same) ok
      refine run_call (val_ix hqn) rfl (okArgs_at hk) (okBack_at hko) (okBack_at hkx) hd l R2 ok' ?_
      have hput : ∀ outs, putO (.val e :: as) outs ρ2 = putO (.val (eC (.obj cn fs)) :: as) outs ρ2 := fun outs => rfl
      cases hr : h (.obj cn fs :: ds ++ dds) with
      | stuck => rw [hr] at p; exact p
      | ok d outs => rw [hr] at p; exact fun v Ai' H' x => p v Ai' H' ((x1.trans x2).trans x)
      | ex e outs => rw [hr] at p; exact XPost.ext (x1.trans x2) p
  · exact p.elim
/-- C(..) -/
def eMake (cn : Str) (f : List Dt → Fq) (as : List AE) (dds : List Dt) : EM Dt := fun ρ => (eArgs as ρ).bind fun ds ρ1 => match f (.obj cn [] :: (ds ++ dds)) with
  | .ok .non (some d :: outs) => .ok d (putO as outs ρ1)
  | .ex e outs => .ex e (putO as outs.tail ρ1)
  | _ => .stuck
theorem Rep.push (R : Rep cl K F B Ai ss ρ σ H) (h : Own cl K (MH B Ai H) H s v d (Ai σ.length)) : Rep cl K F B Ai ((σ.length, s) :: ss) (ρ ++ [some d]) (σ ++ [some v]) H := by
  refine ⟨by simp [R.len], fun i z e => ?_, R.dj, R.nb, R.al, R.hb, R.fx, fun q hq => by have h := R.pin q hq; rw [List.getElem?_append_left (List.getElem?_eq_some_iff.mp h).1]; exact h⟩
  have hl := R.len
  rcases Nat.lt_or_ge i ρ.length with h1 | h1
  · rw [List.getElem?_append_left h1] at e
    obtain ⟨u, u1, u2⟩ := R.row i z e
    refine ⟨u, by rw [List.getElem?_append_left (by omega)]; exact u1, ?_⟩
    rw [show sh ((σ.length, s) :: ss) i = sh ss i by unfold sh; rw [List.lookup_cons, show (i == σ.length) = false by simp; omega]]
    exact u2
  · rw [List.getElem?_append_right h1] at e
    have hi : i = ρ.length := by
      rcases Nat.lt_or_ge i (ρ.length + 1) with h2 | h2
      · omega
      · rw [List.getElem?_eq_none (by simp; omega)] at e; cases e
    subst hi
    simp at e
    subst e
    refine ⟨v, by rw [hl]; simp, ?_⟩
    rw [hl, show sh ((σ.length, s) :: ss) σ.length = s by unfold sh; simp [List.lookup_cons]]
    exact h
theorem Rep.pop {x : Option Dt} {y : Option V} (R : Rep cl K F B Ai ss (ρ ++ [x]) (σ ++ [y]) H) (hs : ∀ i, i < σ.length → sh ss' i = sh ss i) (hp : ∀ q ∈ F.pins, q.1 < σ.length) : Rep cl K F B Ai ss' ρ σ H := by
  have hl : ρ.length = σ.length := by simpa using R.len
  refine ⟨hl, fun i z e => ?_, R.dj, R.nb, R.al, R.hb, R.fx, fun q hq => by have h := R.pin q hq; rw [List.getElem?_append_left (hp q hq)] at h; exact h⟩
  have hi : i < ρ.length := (List.getElem?_eq_some_iff.mp e).1
  obtain ⟨u, u1, u2⟩ := R.row i z (by rw [List.getElem?_append_left hi]; exact e)
  rw [List.getElem?_append_left (by omega)] at u1
  exact ⟨u, u1, by rw [hs i (by omega)]; exact u2⟩
theorem val_no (h : valAs as = true) : (∀ k, ownIx as k = none) ∧ ∀ (k i : Nat) (cs : List Str) (f : Str), as[k]? ≠ some (AE.fld cs i f) := by
  refine ⟨val_ix0 h, ?_⟩
  induction as with
  | nil => intro k i cs f; simp
  | cons x r ih =>
    intro k i cs f
    cases x with
    | val e =>
      cases k with
      | zero => simp
      | succ k => simpa using ih h k i cs f
    | own i => cases h
    | fld cs i f => cases h
theorem putO_val : ∀ {as : List AE} {outs ρ : Env}, valAs as = true → putO as outs ρ = ρ
  | [], _, _, _ => rfl
  | .val e :: as, outs, ρ, h => by unfold putO; exact putO_val (as := as) h
  | .own i :: as, _, _, h => nomatch h
  | .fld cs i f :: as, _, _, h => nomatch h
theorem AllOk.more (sm : Same M M') (h : AllOk cl K M H σ ρ as vs ds) (hv : valAs as = true) : AllOk cl K M' H' σ' ρ' as vs ds := by
  induction h with
  | nil => exact .nil
  | @cons a as v vs d ds ha hr ih =>
    cases a with
    | val e => exact .cons (At.mono sm ha) (ih hv)
    | own i => cases hv
    | fld cs i f => cases hv
/-- C(..): the new instance, held -/
theorem sn_make {gs : Sg} {cn : Str} {C : Addr} {h : List Dt → Fq} (hC : cl cn = some C) (ha : SA cl K c ss tA as) (hd : Consts cl K dvs dds) (hps : gs.ps = [(0, .ob)] := by rfl) (hpo : gs.po = [(0, s)] := by rfl) (hpx : gs.px = [] := by rfl) (hrs : gs.rs = .fz := by rfl) (hv : valAs as = true := by rfl) (l : leS c.sx ss = true := by rfl) :
    SE cl K c ss s (tMakeS C (spD cl K gs h) dvs (WE c.W) tA) (eMake cn h as dds) := fun B Ai ρ σ H Q R p => by
  unfold eMake at p
  refine ha.use (Q := fun vs H1 => ∀ x dx, H1 x = none → H1 dx = none → dx ≠ x → _) R (fun ds ρ1 e1 vs Ai1 H1 x1 R1 ok => ?_) (fun x ρ1 e1 => by rw [e1] at p; exact p) fun e1 => by rw [e1] at p; exact p
  simp only [e1, Er.bind] at p
  intro x dx nx ndx hne
  obtain ⟨R2, x2⟩ := R1.new (q := c.q) (o := .own x) ndx
  have nx2 : upd H1 dx (.own x) x = none := by rw [upd_ne (Ne.symm hne)]; exact nx
  obtain ⟨H3, eH3⟩ : ∃ H3, H3 = upd (upd H1 dx (.own x)) x (.ins C dx []) := ⟨_, rfl⟩
  obtain ⟨R3, x3⟩ := R2.step (q := c.q) (k := σ.length) (A := fun a => a = x) (H' := H3) (ρ' := ρ1) (σ' := σ) (ss' := ss) (fun a z => .inr (by rw [z]; exact nx2)) (fun a z => by rw [z, eH3, upd_same]; exact fun z => nomatch z)
    (fun a u _ e => by rw [eH3, upd_ne (ne_of_none e nx2)]; exact e) R2.len (fun _ _ => rfl) (fun _ a u e => by rw [eH3, upd_ne (ne_of_none e nx2)]; exact e) (fun i d e hi => by obtain ⟨v, h1, _⟩ := R2.row i d e; exact ⟨v, h1, .inl ⟨e, h1, rfl⟩⟩)
    (fun d e => by rw [← R2.len, List.getElem?_eq_none (Nat.le_refl _)] at e; cases e)
  have own0 : Own cl K (MH B (setA Ai1 σ.length fun a => a = x) H3) H3 .ob (.ref x) (.obj cn []) (setA Ai1 σ.length (fun a => a = x) σ.length) := by
    rw [setA_same]
    exact .ob (fun _ _ => False) rfl (by rw [eH3, upd_same]) hC rfl (fun k => rfl) (fun k v d a => by cases a) (fun _ _ _ z => z.elim) (fun _ z => z) (fun a => ⟨.inl, fun z => z.elim id fun ⟨_, z⟩ => z.elim⟩) fun _ _ z => z.elim
  have RP := R3.push own0
  have ok' : AllOk cl K (MH B (setA Ai1 σ.length fun a => a = x) H3) H3 (σ ++ [some (.ref x)]) (ρ1 ++ [some (.obj cn [])]) (.own σ.length :: as) (.ref x :: vs) (.obj cn [] :: ds) := by
    refine .cons ⟨by simp, by unfold gv; rw [← R3.len]; simp⟩ ?_
    exact ok.more (x2.trans x3).same hv
  have hn := R3.len
  obtain ⟨vn, vf⟩ := val_no hv
  have o0 : ownIx (.own σ.length :: as) 0 = some σ.length := rfl
  have oS : ∀ k, ownIx (.own σ.length :: as) (k + 1) = none := fun k => by rw [ownIx_succ]; exact vn k
  have oI : ∀ {k i}, ownIx (.own σ.length :: as) k = some i → k = 0 ∧ i = σ.length := fun {k i} z => by
    cases k with
    | zero => rw [o0] at z; cases z; exact ⟨rfl, rfl⟩
    | succ k => rw [oS] at z; cases z
  have shn : ∀ {q : Sh}, sh ((σ.length, q) :: ss) σ.length = q := fun {q} => by unfold sh; simp [List.lookup_cons]
  have shl : ∀ {q : Sh} {i : Nat}, i ≠ σ.length → sh ((σ.length, q) :: ss) i = sh ss i := fun {q i} z => by unfold sh; rw [List.lookup_cons, show (i == σ.length) = false by simpa using z]
  have sh1 : ∀ {q : Sh} {k : Nat}, k ≠ 0 → sh [(0, q)] k = .fz := fun {q k} z => sh_none fun p hp => by simp at hp; rw [hp]; exact Ne.symm z
  have hk : ArgsP ((σ.length, .ob) :: ss) gs.ps (.own σ.length :: as) := by
    rw [hps]
    refine ⟨fun k i z => ?_, fun k z => ?_, fun k j i z y => ?_, fun k i cs f => ?_⟩
    · obtain ⟨rfl, rfl⟩ := oI z; rw [shn]; rfl
    · exact sh1 fun y => by rw [y, o0] at z; cases z
    · rw [(oI z).1, (oI y).1]
    · cases k with
      | zero => simp
      | succ k => simpa using vf k i cs f
  have hko : BackP ((σ.length, .ob) :: ss) ((σ.length, s) :: ss) gs.po (.own σ.length :: as) := by
    rw [hpo]
    refine ⟨fun k i z => ?_, fun i z => ?_⟩
    · obtain ⟨rfl, rfl⟩ := oI z; rw [shn]; rfl
    · have : i ≠ σ.length := fun y => z 0 (by rw [y, o0])
      rw [shl this, shl this]
  have hkx : BackP ((σ.length, .ob) :: ss) ((σ.length, .fz) :: ss) gs.px (.own σ.length :: as) := by
    rw [hpx]
    refine ⟨fun k i z => ?_, fun i z => ?_⟩
    · obtain ⟨rfl, rfl⟩ := oI z; rw [shn]; rfl
    · have : i ≠ σ.length := fun y => z 0 (by rw [y, o0])
      rw [shl this, shl this]
  have pinl : ∀ q ∈ c.F.pins, q.1 < σ.length := fun q hq => (List.getElem?_eq_some_iff.mp (R.pin q hq)).1
  -- behind the call
  have back : ∀ {Ac : Nat → Addr → Prop} {H' : Hp} {Ai' : Nat → Addr → Prop}, Ext false (bcOf B (setA Ai1 σ.length fun a => a = x) (.own σ.length :: as)) (acOf (setA Ai1 σ.length fun a => a = x) (.own σ.length :: as)) H3 Ac H' → Ext false B (setA Ai1 σ.length fun a => a = x) H3 Ai' H' → Ext c.q B Ai1 H1 Ai' H' := fun {Ac H' Ai'} y z => by
    have w := (x2.trans x3).off.trans z
    refine ⟨w.old, w.fro, fun _ a u e => ?_⟩
    have nax : a ≠ x := ne_of_none e nx
    have e3 : H3 a = some u := by rw [eH3, upd_ne nax, upd_ne (ne_of_none e ndx)]; exact e
    by_cases hb : bcOf B (setA Ai1 σ.length fun a => a = x) (.own σ.length :: as) a
    · rw [y.old a hb]; exact e3
    · refine (y.fro a u hb (fun k ⟨i, z1, z2⟩ => ?_) e3).2
      obtain ⟨_, rfl⟩ := oI z1
      rw [setA_same] at z2
      exact nax z2
  have RF : Rep cl K { c with q := false }.F B (setA Ai1 σ.length fun a => a = x) ((σ.length, .ob) :: ss) (ρ1 ++ [some (Dt.obj cn [])]) (σ ++ [some (.ref x)]) H3 := RP
  obtain ⟨l1, l2⟩ := ok.len
  rw [← eH3]
  show spD cl K gs h ((.ref x :: vs) ++ dvs) H3 _ _
  refine ⟨_, _, (Dt.obj cn [] :: ds) ++ dds, call_rep (c := { c with q := false }) hk hd RF ok', by simp [l1, l2, hd.1], ?_⟩
  have eset : ∀ {o : Option Dt}, (ρ1 ++ [some (Dt.obj cn [])]).set σ.length o = ρ1 ++ [o] := fun {o} => by
    rw [← hn, List.set_append_right _ _ (Nat.le_refl _), Nat.sub_self]; rfl
  cases hr : h ((Dt.obj cn [] :: ds) ++ dds) with
  | stuck => rw [show h (Dt.obj cn [] :: (ds ++ dds)) = .stuck from hr] at p; exact p
  | ok d outs =>
    rw [show h (Dt.obj cn [] :: (ds ++ dds)) = .ok d outs from hr] at p
    intro v Ac H' xx R' o
    rw [hrs] at o
    cases d with
    | non =>
      cases outs with
      | nil => exact p.elim
      | cons z outs =>
        cases z with
        | none => exact p.elim
        | some z =>
          simp only at p
          obtain ⟨Ai', x4, R4, an, sm⟩ := call_back (c := { c with q := false }) (fun z => nomatch z) hk hko (outs := some z :: outs) rfl rfl RF ok' xx R'
          unfold putO at R4
          rw [putO_val hv, eset] at R4
          obtain ⟨u, u1, u2⟩ := R4.row σ.length z (by rw [← hn]; simp)
          rw [show (σ ++ [some (V.ref x)])[σ.length]? = some (some (V.ref x)) by simp] at u1
          cases u1
          rw [shn] at u2
          refine ⟨Bor.non (.at o.fzAt.1) (H := H'), p (.ref x) Ai' H' (x1.trans (back xx x4)) ?_ u2⟩
          rw [putO_val hv]
          exact R4.pop (fun i hi => by rw [shl (Nat.ne_of_lt hi)]) pinl
    | _ => exact p.elim
  | ex e outs =>
    rw [show h (Dt.obj cn [] :: (ds ++ dds)) = .ex e outs from hr] at p
    intro cv dx' Ac H' xx R' hx
    obtain ⟨Ai', x4, R4, an, sm⟩ := call_back (c := { c with q := false }) (fun z => nomatch z) hk hkx (outs := outs) rfl rfl RF ok' xx R'
    have e5 : ∃ o, putO (.own σ.length :: as) outs (ρ1 ++ [some (Dt.obj cn [])]) = ρ1 ++ [o] := by
      cases outs with
      | nil => unfold putO; rw [putO_val hv, eset]; exact ⟨_, rfl⟩
      | cons o outs => unfold putO; rw [putO_val hv, eset]; exact ⟨_, rfl⟩
    obtain ⟨o, e5⟩ := e5
    rw [e5] at R4
    have R5 : Rep cl K c.F B Ai' ss ρ1 σ H' := R4.pop (fun i hi => by rw [shl (Nat.ne_of_lt hi)]) pinl
    obtain ⟨Ai3, y3, R6, _⟩ := R5.less (q := c.q) l
    refine p cv dx' σ Ai3 H' ((x1.trans (back xx x4)).trans y3) ?_ (fun _ _ => rfl) ((hx.mono sm).mono y3.same)
    rw [putO_val hv]
    exact R6
end
/-! ### list comprehensions -/
def wipeE (ρ : Env) : List Nat → Env
  | [] => ρ
  | v :: vs => (wipeE ρ vs).set v none
def backE (ρ0 ρ : Env) : List Nat → Env
  | [] => ρ
  | v :: vs => (backE ρ0 ρ vs).set v (gv ρ0 v)
def compL (vs : List Nat) (g : Dt → Env → Option Env) (c : EM Bool) (e : EM Dt) : List Dt → Env → Er (List Dt)
  | [], ρ => .ok [] ρ
  | x :: xs, ρ => match g x (wipeE ρ vs) with
    | none => .stuck
    | some ρ1 => match c ρ1 with
      | .ok true ρ2 => (match e ρ2 with
        | .ok d ρ3 => (compL vs g c e xs (backE ρ ρ3 vs)).bind fun ds ρ4 => .ok (d :: ds) ρ4
        | _ => .stuck)
      | .ok false ρ2 => compL vs g c e xs (backE ρ ρ2 vs)
      | _ => .stuck
def eComp (it : EM (List Dt)) (vs : List Nat) (g : Dt → Env → Option Env) (c : EM Bool) (e : EM Dt) : EM Dt := fun ρ => (it ρ).bind fun xs ρ1 => if xs.length ≤ 16777216 then (compL vs g c e xs ρ1).bind fun ds ρ2 => .ok (.lst ds) ρ2 else .stuck
def cYes : EM Bool := fun ρ => .ok true ρ
section
variable {cl : Str → Option Addr} {K : PySem.W.Frag} {c : Fx} {F : FP} {q : Bool} {B B' : Addr → Prop} {Ai Ai' Ai0 Ai1 Ai2 : Nat → Addr → Prop} {ss ss' ps : Ss} {ρ ρ' ρ0 : Env} {σ σ' σ1 : L2.St} {M M' H H' H0 H1 H2 : Hp} {v : V} {d d' : Dt} {s s' rs : Sh} {A : Addr → Prop}
  {t ta tb te ti : TE} {e e' a b k : EM Dt} {tA : TA} {as : List AE} {vs : List Nat} {xs xs' ys : List V} {D : Addr} {o : HO} {g : TG} {gd : Dt → Env → Option Env} {tt : TT} {c1 : EM Bool} {wi : TI} {ei : EM (List Dt)}
theorem st_yes : ST cl K c ss tYes cYes := fun B Ai ρ σ H Q R p => p Ai H .refl R
theorem wipeE_len : ∀ {vs : List Nat}, (wipeE ρ vs).length = ρ.length
  | [] => rfl
  | v :: vs => by unfold wipeE; rw [List.length_set, wipeE_len]
theorem backE_len : ∀ {vs : List Nat}, (backE ρ0 ρ vs).length = ρ.length
  | [] => rfl
  | v :: vs => by unfold backE; rw [List.length_set, backE_len]
theorem wipeE_at {i : Nat} {d : Dt} : ∀ {vs : List Nat}, (wipeE ρ vs)[i]? = some (some d) → ρ[i]? = some (some d) ∧ i ∉ vs
  | [], h => ⟨h, by simp⟩
  | v :: vs, h => by
    unfold wipeE at h
    by_cases hi : v = i
    · subst hi
      by_cases hv : v < (wipeE ρ vs).length
      · rw [List.getElem?_set_self hv] at h; cases h
      · rw [List.getElem?_eq_none (by simpa using hv)] at h; cases h
    · rw [List.getElem?_set_ne hi] at h
      obtain ⟨h1, h2⟩ := wipeE_at h
      exact ⟨h1, by simp only [List.mem_cons, not_or]; exact ⟨fun e => hi e.symm, h2⟩⟩
theorem backE_at {i : Nat} {d : Dt} : ∀ {vs : List Nat}, (backE ρ0 ρ vs)[i]? = some (some d) → (i ∈ vs ∧ gv ρ0 i = some d) ∨ (i ∉ vs ∧ ρ[i]? = some (some d))
  | [], h => .inr ⟨by simp, h⟩
  | v :: vs, h => by
    unfold backE at h
    by_cases hi : v = i
    · subst hi
      by_cases hv : v < (backE ρ0 ρ vs).length
      · rw [List.getElem?_set_self hv] at h
        exact .inl ⟨by simp, Option.some.inj h⟩
      · rw [List.getElem?_eq_none (by simpa using hv)] at h; cases h
    · rw [List.getElem?_set_ne hi] at h
      rcases backE_at h with ⟨h1, h2⟩ | ⟨h1, h2⟩
      · exact .inl ⟨by simp [h1], h2⟩
      · exact .inr ⟨by simp only [List.mem_cons, not_or]; exact ⟨fun e => hi e.symm, h1⟩, h2⟩
theorem wipe_at {i : Nat} : ∀ {vs : List Nat}, i ∉ vs → (wipe σ vs)[i]? = σ[i]?
  | [], _ => rfl
  | v :: vs, h => by
    unfold wipe
    rw [List.getElem?_set_ne (fun z => h (by simp [z]))]
    exact wipe_at fun z => h (by simp [z])
theorem wipe_in {i : Nat} (hi : i < σ.length) : ∀ {vs : List Nat}, i ∈ vs → (wipe σ vs)[i]? = some none
  | v :: vs, h => by
    unfold wipe
    by_cases e : v = i
    · subst e; rw [List.getElem?_set_self (by rw [wipe_length]; exact hi)]
    · rw [List.getElem?_set_ne e]
      exact wipe_in hi (by simpa [Ne.symm e] using h)
theorem wipe_eq (hl : σ'.length = σ.length) (h : ∀ i, i ∉ vs → σ'[i]? = (wipe σ vs)[i]?) : wipe σ' vs = wipe σ vs := by
  apply List.ext_getElem?
  intro i
  by_cases hi : i ∈ vs
  · rcases Nat.lt_or_ge i σ.length with q | q
    · rw [wipe_in q hi, wipe_in (hl ▸ q) hi]
    · rw [List.getElem?_eq_none (by rw [wipe_length, hl]; exact q), List.getElem?_eq_none (by rw [wipe_length]; exact q)]
  · rw [wipe_at hi, h i hi]
/-- into the block: its own names forgotten, the list at D held -/
theorem Rep.blk (R : Rep cl K F B Ai ss ρ σ H) (hp : F.pins.all (fun p => !vs.contains p.1) = true) : Rep cl K F B Ai ss (wipeE ρ vs) (wipe σ vs) H := by
  refine ⟨by rw [wipeE_len, wipe_length]; exact R.len, fun i d e => ?_, R.dj, R.nb, R.al, R.hb, R.fx, fun q hq => ?_⟩
  · obtain ⟨h1, h2⟩ := wipeE_at e
    obtain ⟨v, w1, w2⟩ := R.row i d h1
    exact ⟨v, by rw [wipe_at h2]; exact w1, w2⟩
  · have := List.all_eq_true.mp hp q hq
    rw [wipe_at (by simpa using this)]
    exact R.pin q hq
theorem Rep.unblk (R : Rep cl K F B Ai ss ρ σ' H) (R0 : Rep cl K F B Ai0 ss ρ0 σ H0) (x : Ext q B Ai0 H0 Ai H) (hv : vs.all (fun i => sh ss i == .fz) = true) (hl : σ'.length = σ.length) (hw : ∀ i, i ∉ vs → σ'[i]? = σ[i]?) (hp : F.pins.all (fun p => !vs.contains p.1) = true) :
    ∃ Ai', Ext q B Ai H Ai' H ∧ Rep cl K F B Ai' ss (backE ρ0 ρ vs) σ H := by
  obtain ⟨Aj, eAj⟩ : ∃ Aj : Nat → Addr → Prop, Aj = fun i a => i ∉ vs ∧ Ai i a := ⟨_, rfl⟩
  have sub : ∀ {i a}, Aj i a → i ∉ vs ∧ Ai i a := fun z => by rw [eAj] at z; exact z
  have x2 : Ext q B Ai H Aj H := ⟨fun _ _ => rfl, fun a o _ na e => ⟨fun j z => na j (sub z).2, e⟩, fun _ => Same.refl _⟩
  refine ⟨Aj, x2, ⟨by rw [backE_len, R.len]; exact hl, fun i d e => ?_, fun i j a h1 h2 => R.dj i j a (sub h1).2 (sub h2).2, fun i a h => R.nb i a (sub h).2, fun i a h => R.al i a (sub h).2, R.hb, F.mono _ _ x2.same R.fx, fun q hq => ?_⟩⟩
  · rcases backE_at e with ⟨h1, h2⟩ | ⟨h1, h2⟩
    · obtain ⟨v, w1, w2⟩ := R0.row i d (gv_some h2)
      have hs : sh ss i = .fz := by simpa using List.all_eq_true.mp hv i h1
      rw [hs] at w2 ⊢
      exact ⟨v, w1, .fz (w2.fzAt.1.mono (x.trans x2).same) fun a z => (sub z).1 h1⟩
    · obtain ⟨v, w1, w2⟩ := R.row i d h2
      refine ⟨v, by rw [← hw i h1]; exact w1, ?_⟩
      rw [show Aj i = Ai i by funext a; rw [eAj]; simp [h1]]
      exact w2.mono x2.same fun _ _ => rfl
  · have := List.all_eq_true.mp hp q hq
    rw [← hw q.1 (by simpa using this)]
    exact R.pin q hq
abbrev blkFx (c : Fx) (vs : List Nat) : Fx := { c with W := fun _ _ _ _ => False, sx := [], kp := fun i => !vs.contains i }
abbrev orB (B : Addr → Prop) (D : Addr) : Addr → Prop := fun a => B a ∨ a = D
theorem Rep.hold (R : Rep cl K F B Ai ss ρ σ H) (n : H D = none) : Rep cl K F (orB B D) Ai ss ρ σ (upd H D o) ∧ Same (MH B Ai H) (MH (orB B D) Ai (upd H D o)) := by
  have sm : Same (MH B Ai H) (MH (orB B D) Ai (upd H D o)) := fun a u e => by
    obtain ⟨h1, h2⟩ := mask_some.mp e
    have : a ≠ D := ne_of_none h2 n
    exact mask_some.mpr ⟨fun z => z.elim (fun z => z.elim (fun z => h1 (.inl z)) this) fun z => h1 (.inr z), by rw [upd_ne this]; exact h2⟩
  have e : ∀ a, H a ≠ none → upd H D o a = H a := fun a h => upd_ne fun z => by subst z; exact h n
  refine ⟨⟨R.len, fun i d q => ?_, R.dj, fun i a h z => z.elim (R.nb i a h) fun z => R.al i a h (z ▸ n), fun i a h => by rw [e a (R.al i a h)]; exact R.al i a h, fun a z => ?_, F.mono _ _ sm R.fx, R.pin⟩, sm⟩
  · obtain ⟨v, h1, h2⟩ := R.row i d q
    exact ⟨v, h1, h2.mono sm fun a ha => e a (R.al i a ha)⟩
  · rcases z with z | z
    · rw [e a (R.hb a z)]; exact R.hb a z
    · rw [z, upd_same]; exact fun z => nomatch z
/-- the list at D grows -/
theorem Rep.over (R : Rep cl K F (orB B D) Ai ss ρ σ H) : Rep cl K F (orB B D) Ai ss ρ σ (upd H D o) ∧ Same (MH (orB B D) Ai H) (MH (orB B D) Ai (upd H D o)) := by
  have sm : Same (MH (orB B D) Ai H) (MH (orB B D) Ai (upd H D o)) := fun a u e => by
    obtain ⟨h1, h2⟩ := mask_some.mp e
    have : a ≠ D := fun z => h1 (.inl (.inr z))
    exact mask_some.mpr ⟨h1, by rw [upd_ne this]; exact h2⟩
  have e : ∀ i a, Ai i a → upd H D o a = H a := fun i a h => upd_ne fun z => R.nb i a h (.inr z)
  refine ⟨⟨R.len, fun i d q => ?_, R.dj, R.nb, fun i a h => by rw [e i a h]; exact R.al i a h, fun a z => ?_, F.mono _ _ sm R.fx, R.pin⟩, sm⟩
  · obtain ⟨v, h1, h2⟩ := R.row i d q
    exact ⟨v, h1, h2.mono sm fun a ha => e i a ha⟩
  · by_cases h : a = D
    · rw [h, upd_same]; exact fun z => nomatch z
    · rw [upd_ne h]; exact R.hb a z
/-- from where the list was not yet there -/
theorem Ext.into (x : Ext q B Ai0 H0 Ai1 H1) (n : H0 D = none) (y : Ext q (orB B D) Ai1 H1 Ai2 H2) : Ext q B Ai0 H0 Ai2 H2 := by
  refine ⟨fun a h => (y.old a (.inl h)).trans (x.old a h), fun a o nb na e => ?_, fun h => (x.qt h).trans (y.qt h)⟩
  obtain ⟨h1, h2⟩ := x.fro a o nb na e
  exact y.fro a o (fun z => z.elim nb fun z => by rw [z, n] at e; cases e) h1 h2
theorem Ext.overD (x : Ext q B Ai0 H0 Ai1 H1) (n : H0 D = none) (hb : ¬ B D) : Ext q B Ai0 H0 Ai1 (upd H1 D o) :=
  ⟨fun a h => by rw [upd_ne (show a ≠ D from fun z => hb (by rw [← z]; exact h))]; exact x.old a h, fun a u nb na e => by
    obtain ⟨h1, h2⟩ := x.fro a u nb na e
    exact ⟨h1, by rw [upd_ne (ne_of_none e n)]; exact h2⟩, fun h a u e => by rw [upd_ne (ne_of_none e n)]; exact x.qt h a u e⟩
/-- the list is told: it is at hand, held -/
theorem Rep.told {acc : List V} {dacc : List Dt} (R : Rep cl K F (orB B D) Ai ss ρ σ H) (x : Ext q B Ai0 H0 Ai H) (n : H0 D = none) (hb : ¬ B D) (hD : H D = some (.lst acc)) (ha : AtsL cl K (MH (orB B D) Ai H) acc dacc) :
    ∃ Ai', Ext q B Ai0 H0 Ai' H ∧ Rep cl K F B Ai' ss ρ σ H ∧ Own cl K (MH B Ai' H) H (.ls .fz) (.ref D) (.lst dacc) (Ai' σ.length) := by
  have nai : ∀ i, ¬ Ai i D := fun i z => R.nb i D z (.inr rfl)
  have sm : Same (MH (orB B D) Ai H) (MH B (setA Ai σ.length fun a => a = D) H) := fun a u e => by
    obtain ⟨h1, h2⟩ := mask_some.mp e
    refine mask_some.mpr ⟨fun z => ?_, h2⟩
    rcases z with z | ⟨i, z⟩
    · exact h1 (.inl (.inl z))
    · rcases setA_imp z with ⟨_, z⟩ | ⟨_, z⟩
      · exact h1 (.inl (.inr z))
      · exact h1 (.inr ⟨i, z⟩)
  refine ⟨setA Ai σ.length fun a => a = D, ⟨x.old, fun a u nb na e => ?_, x.qt⟩, ⟨R.len, fun i d e => ?_, fun i j a h1 h2 => ?_, fun i a h z => ?_, fun i a h => ?_, fun a z => R.hb a (.inl z), F.mono _ _ sm R.fx, R.pin⟩, ?_⟩
  · obtain ⟨h1, h2⟩ := x.fro a u nb na e
    refine ⟨fun i z => ?_, h2⟩
    rcases setA_imp z with ⟨_, z⟩ | ⟨_, z⟩
    · rw [z, n] at e; cases e
    · exact h1 i z
  · obtain ⟨v, h1, h2⟩ := R.row i d e
    have hi : i ≠ σ.length := fun z => by rw [z, List.getElem?_eq_none (Nat.le_refl _)] at h1; cases h1
    rw [setA_ne hi]
    exact ⟨v, h1, h2.mono sm fun _ _ => rfl⟩
  · rcases setA_imp h1 with ⟨e1, q1⟩ | ⟨e1, q1⟩
    · rcases setA_imp h2 with ⟨e2, q2⟩ | ⟨e2, q2⟩
      · rw [e1, e2]
      · rw [q1] at q2; exact absurd q2 (nai j)
    · rcases setA_imp h2 with ⟨e2, q2⟩ | ⟨e2, q2⟩
      · rw [q2] at q1; exact absurd q1 (nai i)
      · exact R.dj i j a q1 q2
  · rcases setA_imp h with ⟨_, y⟩ | ⟨_, y⟩
    · rw [y] at z; exact hb z
    · exact R.nb i a y (.inl z)
  · rcases setA_imp h with ⟨_, y⟩ | ⟨_, y⟩
    · rw [y, hD]; exact fun z => nomatch z
    · exact R.al i a y
  · rw [setA_same]
    exact own_lsFz hD (ha.mono sm) fun a => Iff.rfl
def GLen (gd : Dt → Env → Option Env) : Prop := ∀ d ρ ρ', gd d ρ = some ρ' → ρ'.length = ρ.length
theorem gl_var {i : Nat} : GLen (gVar i) := fun d ρ ρ' h => by cases h; simp
def GLens (gs : List (Dt → Env → Option Env)) : Prop := ∀ ds ρ ρ', gAll gs ds ρ = some ρ' → ρ'.length = ρ.length
theorem gl_nil : GLens [] := fun ds ρ ρ' h => by
  cases ds with
  | nil => cases h; rfl
  | cons d ds => cases h
theorem gl_cons {gs : List (Dt → Env → Option Env)} (h1 : GLen gd) (h2 : GLens gs) : GLens (gd :: gs) := fun ds ρ ρ' h => by
  cases ds with
  | nil => cases h
  | cons d ds =>
    unfold gAll at h
    cases e : gd d ρ with
    | none => rw [e] at h; cases h
    | some ρ1 => rw [e] at h; exact (h2 ds ρ1 ρ' h).trans (h1 d ρ ρ1 e)
theorem gl_tup {gs : List (Dt → Env → Option Env)} (h : GLens gs) : GLen (gTupD gs) := fun d ρ ρ' e => by
  cases d with
  | tup ds => exact h ds ρ ρ' e
  | _ => cases e
def mapEr (f : List Dt → List Dt) : Er (List Dt) → Er (List Dt)
  | .ok ds ρ => .ok (f ds) ρ
  | .ex e ρ => .ex e ρ
  | .stuck => .stuck
theorem sn_comp (hi : SI cl K c ss wi ei) (hg : SG cl K (blkFx c vs) ss ss g gd) (hgl : GLen gd) (ht : ST cl K (blkFx c vs) ss tt c1) (he : SE cl K (blkFx c vs) ss .fz te e) (hv : vs.all (fun i => sh ss i == .fz) = true := by rfl) (hp : c.F.pins.all (fun p => !vs.contains p.1) = true := by rfl) :
    SE cl K c ss (.ls .fz) (tLc wi g tt te vs) (eComp ei vs gd c1 e) := fun B Ai ρ σ H Q R p => by
  unfold eComp at p
  refine hi B Ai ρ σ H _ R ?_
  cases er : ei ρ with
  | ex x ρ1 => rw [er] at p; exact p
  | stuck => rw [er] at p; exact p
  | ok xs ρ1 =>
    simp only [er, Er.bind] at p
    intro J Ai1 H1 x1 R1 hJ D nD
    by_cases hz : xs.length ≤ 16777216
    · rw [if_pos hz] at p
      have hbD : ¬ B D := fun z => R1.hb D z nD
      obtain ⟨R2, sm2⟩ := R1.hold (o := .lst []) nD
      have X0 : Ext c.q B Ai1 H1 Ai1 (upd H1 D (.lst [])) := Ext.refl.overD nD hbD
      refine ⟨fun i m H' => ∃ Ai' ρ' acc dacc, m = (xs.drop i).length ∧ Ext c.q B Ai1 H1 Ai' H' ∧ Rep cl K c.F (orB B D) Ai' ss ρ' σ H' ∧ Same (MH B Ai1 H1) (MH (orB B D) Ai' H') ∧ H' D = some (.lst acc) ∧ AtsL cl K (MH (orB B D) Ai' H') acc dacc ∧ acc.length + (xs.drop i).length ≤ 16777216 ∧
        EPost cl K c B Ai1 ss σ H1 (.ls .fz) Q ((mapEr (dacc ++ ·) (compL vs gd c1 e (xs.drop i) ρ')).bind fun ds ρ2 => .ok (.lst ds) ρ2),
        ⟨_, Ai1, ρ1, [], [], rfl, X0, R2, sm2, upd_same, ⟨rfl, fun i v d e => by simp at e⟩, by simpa using hz, ?_⟩, ?_⟩
      · have e0 : mapEr (([] : List Dt) ++ ·) (compL vs gd c1 e (xs.drop 0) ρ1) = compL vs gd c1 e xs ρ1 := by
          rw [List.drop_zero]
          cases compL vs gd c1 e xs ρ1 <;> rfl
        rw [e0]
        cases hr : compL vs gd c1 e xs ρ1 with
        | ok ds ρ2 => simp only [hr] at p; exact fun v Ai' H' x => p v Ai' H' (x1.trans x)
        | ex y ρ2 => simp only [hr] at p; exact XPost.ext x1 p
        | stuck => simp only [hr] at p; exact p
      · rintro i m H3 ⟨Ai3, ρ3, acc, dacc, rfl, X3, R3, sm3, hD3, ha3, hlen, p3⟩
        obtain ⟨j1, j2⟩ := hJ (MH (orB B D) Ai3 H3) H3 sm3 mask_same
        cases hd : xs.drop i with
        | nil =>
          rw [hd] at p3
          simp only [compL, mapEr, Er.bind, List.append_nil] at p3
          obtain ⟨Ai4, x4, R4, o4⟩ := R3.told X3 nD hbD hD3 ha3
          exact .inl ⟨j1 i (List.drop_eq_nil_iff.mp hd), p3 (.ref D) Ai4 H3 x4 R4 o4⟩
        | cons x r =>
          rw [hd] at p3 hlen
          obtain ⟨e1, e2, hi'⟩ := drop_at hd
          obtain ⟨q1, q2⟩ := j2 i x e1
          refine .inr ⟨q1, fun H' => ∃ Ai' ρ' acc dacc, Ext c.q B Ai1 H1 Ai' H' ∧ Rep cl K c.F (orB B D) Ai' ss ρ' σ H' ∧ Same (MH B Ai1 H1) (MH (orB B D) Ai' H') ∧ H' D = some (.lst acc) ∧ AtsL cl K (MH (orB B D) Ai' H') acc dacc ∧ acc.length + r.length ≤ 16777216 ∧
            EPost cl K c B Ai1 ss σ H1 (.ls .fz) Q ((mapEr (dacc ++ ·) (compL vs gd c1 e r ρ')).bind fun ds ρ2 => .ok (.lst ds) ρ2),
            fun H' ⟨Ai', ρ', acc, dacc, y1, y2, y3, y4, y5, y6, y7⟩ => ⟨r.length, by simp, Ai', ρ', acc, dacc, by rw [e2], y1, y2, y3, y4, y5, by rw [e2]; exact y6, by rw [e2]; exact y7⟩, fun w H4 hy => ?_⟩
          obtain ⟨Ai4, x4, R4, o4⟩ := R3.res (q := c.q) (q2 w H4 hy)
          have R4b := R4.blk hp (vs := vs)
          unfold compL at p3
          cases hgd : gd x (wipeE ρ3 vs) with
          | none => rw [hgd] at p3; exact p3.elim
          | some ρ5 =>
            rw [hgd] at p3
            simp only at p3
            have X4 := X3.into nD x4
            have D4 : H4 D = some (.lst acc) := (x4.old D (.inr rfl)).trans hD3
            refine hg (orB B D) Ai4 _ _ H4 w x ρ5 _ R4b o4.fzAt.1 hgd fun σ6 Ai6 x6 R6 k6 => ?_
            have k6' : ∀ i, i ∉ vs → σ6[i]? = (wipe σ vs)[i]? := fun i hi => k6 i (by simpa using hi)
            have l6 : σ6.length = σ.length := by
              have a1 := R6.len
              have a2 := R4b.len
              rw [wipe_length] at a2
              have : ρ5.length = (wipeE ρ3 vs).length := hgl x _ _ hgd
              omega
            have w6 : ∀ i, i ∉ vs → σ6[i]? = σ[i]? := fun i hi => (k6' i hi).trans (wipe_at hi)
            refine ⟨wipe_eq l6 k6', ?_⟩
            refine ST.use ht R6 (fun b ρ7 e7 Ai7 H7 x7 R7 => ?_) (fun y ρ7 e7 => by rw [e7] at p3; exact p3.elim) fun e7 => by rw [e7] at p3; exact p3
            have x67 : Ext c.q (orB B D) Ai4 H4 Ai7 H7 := Ext.trans x6 x7
            have X7 := X4.into nD x67
            have x37 : Ext c.q (orB B D) Ai3 H3 Ai7 H7 := x4.trans x67
            have D7 : H7 D = some (.lst acc) := (x67.old D (.inr rfl)).trans D4
            cases b with
            | false =>
              simp only [e7] at p3
              obtain ⟨Ai8, x8, R8⟩ := R7.unblk R3 x37 hv l6 w6 hp
              exact iteF ⟨Ai8, _, acc, dacc, X7.into nD x8, R8, sm3.trans (x37.trans x8).same, D7, ha3.mono (x37.trans x8).same, by simp at hlen; omega, p3⟩
            | true =>
              simp only [e7] at p3
              refine iteT (SE.use he R7 (fun z ρ9 e9 y Ai9 H9 x9 R9 o9 => ?_) (fun y ρ9 e9 => by rw [e9] at p3; exact p3.elim) fun e9 => by rw [e9] at p3; exact p3)
              simp only [e9] at p3
              have x39 : Ext c.q (orB B D) Ai3 H3 Ai9 H9 := x37.trans x9
              have D9 : H9 D = some (.lst acc) := (Ext.old x9 D (.inr rfl)).trans D7
              obtain ⟨Ai8, x8, R8⟩ := R9.unblk R3 x39 hv l6 w6 hp
              have X8 := (X7.into nD x9).into nD x8
              obtain ⟨R10, sm10⟩ := R8.over (o := .lst (acc ++ [y]))
              have sm310 := ((x39.trans x8).same).trans sm10
              refine ⟨acc, D9, line_lt (by simp at hlen; omega), Ai8, _, acc ++ [y], dacc ++ [z], X8.overD nD hbD, R10, sm3.trans sm310, upd_same, (ha3.mono sm310).app (.one (o9.fzAt.1.mono ((Ext.same x8).trans sm10))), by simp at hlen ⊢; omega, ?_⟩
              have e10 : ∀ (r : Er (List Dt)), ((mapEr (dacc ++ ·) (r.bind fun ds ρ4 => .ok (z :: ds) ρ4)).bind fun ds ρ2 => .ok (Dt.lst ds) ρ2) = ((mapEr (dacc ++ [z] ++ ·) r).bind fun ds ρ2 => .ok (Dt.lst ds) ρ2) := fun r => by
                cases r with
                | ok ds ρ => simp [mapEr, Er.bind]
                | ex e ρ => rfl
                | stuck => rfl
              rw [e10] at p3
              exact p3
    · rw [if_neg hz] at p; exact p.elim
end
/-! ### operations on data -/
theorem OpR.or3 {X : Cx} {f : Value → Value → Sem Value} {r1 r2 r3 : R2} (h1 : OpR X f r1) (h2 : OpR X f r2) (h3 : OpR X f r3) : OpR X f (fun x y H Q => r1 x y H Q ∨ r2 x y H Q ∨ r3 x y H Q) := h1.or (h2.or h3)
section
variable {X : Cx} (K : PySem.W.Frag) (eK : X.K = K := by rfl)
include eK
abbrev rAddD (K : PySem.W.Frag) : R2 := fun x y H Q => rI0 (fun i j => .int (i + j)) x y H Q ∨ (fun x y H Q => ∃ i j, x = .str i ∧ y = .str j ∧ i.length + j.length ≤ sizeLine ∧ Q (.str (i ++ j)) H : R2) x y H Q ∨ rCat x y H Q ∨ rCatA K x y H Q
theorem op_addD : OpR X (binaryOp .Add) (rAddD K) := by subst eK; exact op_add.or (op_add_str.or (op_cat.or op_catA))
abbrev rMulD (K : PySem.W.Frag) : R2 := fun x y H Q => rI CMul (fun i j => .int (i * j)) x y H Q ∨ rI CMulW (fun i j => .int (i * j)) x y H Q ∨ rRep x y H Q ∨ rRepT K x y H Q
theorem op_mulD : OpR X (binaryOp .Mult) (rMulD K) := by subst eK; exact op_mul.or (op_mulW.or (op_rep.or op_repT))
abbrev rDivD : R2 := fun x y H Q => rI CDiv (fun i j => .int (i / j)) x y H Q ∨ rI CDivW (fun i j => .int (i / j)) x y H Q
omit eK in
theorem op_divD : OpR X (binaryOp .FloorDiv) rDivD := op_fdiv.or op_fdivW
abbrev rLtD : R2 := fun x y H Q => rI0 (fun i j => .bl (decide (i < j))) x y H Q ∨ (fun x y H Q => ∃ i j, x = .str i ∧ y = .str j ∧ Q (.bl (decide (i.cps.toList < j.cps.toList))) H : R2) x y H Q
omit eK in
theorem op_ltD : OpR X (compareOp .Lt) rLtD := op_lt.or op_lt_str
abbrev rLeD : R2 := fun x y H Q => rI0 (fun i j => .bl (decide (i ≤ j))) x y H Q ∨ (fun x y H Q => ∃ i j, x = .str i ∧ y = .str j ∧ Q (.bl (!decide (j.cps.toList < i.cps.toList))) H : R2) x y H Q
omit eK in
theorem op_leD : OpR X (compareOp .LtE) rLeD := op_le.or op_le_str
abbrev rGtD : R2 := fun x y H Q => rI0 (fun i j => .bl (decide (j < i))) x y H Q ∨ (fun x y H Q => ∃ i j, x = .str i ∧ y = .str j ∧ Q (.bl (decide (j.cps.toList < i.cps.toList))) H : R2) x y H Q
omit eK in
theorem op_gtD : OpR X (compareOp .Gt) rGtD := op_gt.or op_gt_str
abbrev rGeD : R2 := fun x y H Q => rI0 (fun i j => .bl (decide (j ≤ i))) x y H Q ∨ (fun x y H Q => ∃ i j, x = .str i ∧ y = .str j ∧ Q (.bl (!decide (i.cps.toList < j.cps.toList))) H : R2) x y H Q
omit eK in
theorem op_geD : OpR X (compareOp .GtE) rGeD := op_ge.or op_ge_str
abbrev rEqDD (K : PySem.W.Frag) : R2 := fun x y H Q => rEq x y H Q ∨ rEqD K x y H Q
theorem op_eqDD (hu : X.A.units + 64 < cLine) : OpR X (compareOp .Eq) (rEqDD K) := by subst eK; exact op_eq.or (op_eqD hu)
abbrev rNeDD (K : PySem.W.Frag) : R2 := fun x y H Q => rNe x y H Q ∨ rNeD K x y H Q
theorem op_neDD (hu : X.A.units + 64 < cLine) : OpR X (compareOp .NotEq) (rNeDD K) := by subst eK; exact op_ne.or (op_neD hu)
theorem ix_seqD : IxR X (rIx K) := by subst eK; exact ix_seq
end
def addD : List Dt → Option Dt
  | [.int i, .int j] => some (.int (i + j))
  | [.str i, .str j] => if i.length + j.length ≤ 16777216 then some (.str (i ++ j)) else none
  | [.lst l, .lst m] => if l.length + m.length ≤ 16777216 then some (.lst (l ++ m)) else none
  | [.tup l, .tup m] => if l.length + m.length ≤ 16777216 then some (.tup (l ++ m)) else none
  | _ => none
def catD : List Dt → Option Dt
  | [.lst l, .lst m] => if l.length + m.length ≤ 16777216 then some (.lst (l ++ m)) else none
  | _ => none
def subD : List Dt → Option Dt
  | [.int i, .int j] => some (.int (i - j))
  | _ => none
instance {i j : Int} : Decidable (CMul i j) := by unfold CMul; infer_instance
instance {i j : Int} : Decidable (CMulW i j) := by unfold CMulW; infer_instance
instance {i j : Int} : Decidable (CDiv i j) := by unfold CDiv; infer_instance
instance {i j : Int} : Decidable (CDivW i j) := by unfold CDivW; infer_instance
instance {i j : Int} : Decidable (CPow i j) := by unfold CPow; infer_instance
def mulD : List Dt → Option Dt
  | [.int i, .int j] => if CMul i j ∨ CMulW i j then some (.int (i * j)) else none
  | [.lst l, .int k] => if inR k = true ∧ l.length * k.toNat ≤ 16777216 then some (.lst (List.replicate k.toNat l).flatten) else none
  | _ => none
def repD : List Dt → Option Dt
  | [.lst l, .int k] => if inR k = true ∧ l.length * k.toNat ≤ 16777216 then some (.lst (List.replicate k.toNat l).flatten) else none
  | _ => none
def divD : List Dt → Option Dt
  | [.int i, .int j] => if CDiv i j ∨ CDivW i j then some (.int (i / j)) else none
  | _ => none
def modD : List Dt → Option Dt
  | [.int i, .int j] => if 0 < j then some (.int (i % j)) else none
  | _ => none
def powD : List Dt → Option Dt
  | [.int i, .int j] => if CPow i j then some (.int (i ^ j.toNat)) else none
  | _ => none
def shlD : List Dt → Option Dt
  | [.int i, .int j] => if CPow i j then some (.int (i * 2 ^ j.toNat)) else none
  | _ => none
def shrD : List Dt → Option Dt
  | [.int i, .int j] => if 0 ≤ j then some (.int (i / 2 ^ j.toNat)) else none
  | _ => none
def andD : List Dt → Option Dt
  | [.int i, .int j] => some (.int (Builtin.bitAnd i j))
  | _ => none
def orD : List Dt → Option Dt
  | [.int i, .int j] => some (.int (Builtin.bitOr i j))
  | _ => none
def xorD : List Dt → Option Dt
  | [.int i, .int j] => some (.int (Builtin.bitXor i j))
  | _ => none
def negD : List Dt → Option Dt
  | [.int i] => some (.int (-i))
  | _ => none
def ltD : List Dt → Option Dt
  | [.int i, .int j] => some (.bl (decide (i < j)))
  | [.str i, .str j] => some (.bl (decide (i.cps.toList < j.cps.toList)))
  | _ => none
def leD : List Dt → Option Dt
  | [.int i, .int j] => some (.bl (decide (i ≤ j)))
  | [.str i, .str j] => some (.bl (!decide (j.cps.toList < i.cps.toList)))
  | _ => none
def gtD : List Dt → Option Dt
  | [.int i, .int j] => some (.bl (decide (j < i)))
  | [.str i, .str j] => some (.bl (decide (j.cps.toList < i.cps.toList)))
  | _ => none
def geD : List Dt → Option Dt
  | [.int i, .int j] => some (.bl (decide (j ≤ i)))
  | [.str i, .str j] => some (.bl (!decide (i.cps.toList < j.cps.toList)))
  | _ => none
/-! == : of plain data -/
mutual
def toP : Dt → Option PyData
  | .non => some .none
  | .bl b => some (.bool b)
  | .int i => some (.int i)
  | .str x => some (.str x)
  | .lst l => (toPs l).map .list
  | .rol l => (toPs l).map .list
  | .tup l => (toPs l).map .tuple
  | _ => none
def toPs : List Dt → Option (List PyData)
  | [] => some []
  | d :: ds => match toP d, toPs ds with
    | some p, some ps => some (p :: ps)
    | _, _ => none
end
def eqG (a b : Dt) : Option Bool := match toP a, toP b with
  | some p, some q => if SeqAt.shaped p && SeqAt.shaped q then some (PyData.eqv p q) else none
  | _, _ => none
def eqB : Dt → Dt → Option Bool
  | .int i, .int j => some (decide (i = j))
  | .str i, .str j => some (decide (i = j))
  | .bl i, .bl j => some (decide (i = j))
  | a, b => eqG a b
def eqD : List Dt → Option Dt
  | [a, b] => (eqB a b).map .bl
  | _ => none
def neD : List Dt → Option Dt
  | [a, b] => (eqB a b).map fun k => .bl (!k)
  | _ => none
def isN : Dt → Bool | .non => true | _ => false
def isND : List Dt → Option Dt
  | [a, .non] => some (.bl (isN a))
  | _ => none
def notND : List Dt → Option Dt
  | [a, .non] => some (.bl (!isN a))
  | _ => none
def ixD : List Dt → Option Dt
  | [.lst l, .int i] => atI l i
  | [.rol l, .int i] => atI l i
  | [.tup l, .int i] => atI l i
  | [.str x, .int i] => if x.length ≤ 16777216 then (atI x.cps.toList i).map fun c => .str ⟨#[c]⟩ else none
  | _ => none
def lenD : List Dt → Option Dt
  | [.lst l] => some (.int l.length)
  | [.rol l] => some (.int l.length)
  | [.tup l] => some (.int l.length)
  | [.str x] => if x.length ≤ 16777216 then some (.int x.length) else none
  | _ => none
def listD : List Dt → Option Dt
  | [.lst l] => some (.lst l)
  | [.rol l] => some (.lst l)
  | [.tup l] => some (.lst l)
  | _ => none
def tupleD : List Dt → Option Dt
  | [.lst l] => some (.tup l)
  | [.rol l] => some (.tup l)
  | [.tup l] => some (.tup l)
  | _ => none
def intD : List Dt → Option Dt
  | [.int i] => some (.int i)
  | [.bl k] => some (.int (if k then 1 else 0))
  | _ => none
def max2D : List Dt → Option Dt
  | [.int i, .int j] => some (.int (if j > i then j else i))
  | _ => none
def min2D : List Dt → Option Dt
  | [.int i, .int j] => some (.int (if j < i then j else i))
  | _ => none
def intsD : List Dt → Option (List Int)
  | [] => some []
  | .int i :: r => (intsD r).map (i :: ·)
  | _ => none
def blsD : List Dt → Option (List Bool)
  | [] => some []
  | .bl i :: r => (blsD r).map (i :: ·)
  | _ => none
def sumD : List Dt → Option Dt
  | [d] => (match lstI d with | some l => (intsD l).map fun ns => .int ns.sum | none => none)
  | _ => none
def allD : List Dt → Option Dt
  | [d] => (match lstI d with | some l => (blsD l).map fun ns => .bl (ns.all id) | none => none)
  | _ => none
def anyD : List Dt → Option Dt
  | [d] => (match lstI d with | some l => (blsD l).map fun ns => .bl (ns.any id) | none => none)
  | _ => none
section
variable {cl : Str → Option Addr} {K : PySem.W.Frag} {c : Fx} {M H : Hp} {v w : V} {d : Dt} {xs ys : List V} {l m : List Dt} {vs : List V} {ds : List Dt}
theorem os_ii {C : Int → Int → Prop} [∀ i j, Decidable (C i j)] {Cp : Int → Int → Prop} {g : Int → Int → V} {gd : Int → Int → Dt} {f : List Dt → Option Dt} (hf : ∀ ds z, f ds = some z → ∃ i j, ds = [.int i, .int j] ∧ C i j ∧ z = gd i j) (hC : ∀ i j, C i j → Cp i j) (hg : ∀ M i j, At cl K M (g i j) (gd i j)) : OpS cl K f (k2 (rI Cp g)) := fun M H vs ds z Q sm hb e q => by
  obtain ⟨i, j, rfl, h, rfl⟩ := hf ds z e
  obtain ⟨v, w, rfl, h1, h2⟩ := hb.two
  exact ⟨i, j, h1.int, h2.int, hC i j h, q _ _ (.old (hg M i j))⟩
theorem os_ii0 {g : Int → Int → V} {gd : Int → Int → Dt} {f : List Dt → Option Dt} (hf : ∀ ds z, f ds = some z → ∃ i j, ds = [.int i, .int j] ∧ z = gd i j) (hg : ∀ M i j, At cl K M (g i j) (gd i j)) : OpS cl K f (k2 (rI0 g)) := fun M H vs ds z Q sm hb e q => by
  obtain ⟨i, j, rfl, rfl⟩ := hf ds z e
  obtain ⟨v, w, rfl, h1, h2⟩ := hb.two
  exact ⟨i, j, h1.int, h2.int, q _ _ (.old (hg M i j))⟩
theorem NewO.lstA {p : Addr} (h : AtsL cl K M xs l) : NewO cl K M p (.lst xs) (.lst l) := .lst h.1 h.2
theorem NewO.tupA {p : Addr} (h : AtsL cl K M xs l) : NewO cl K M p (.tup xs) (.tup l) := .tup h.1 h.2
theorem os_add : OpS cl K addD (k2 (rAddD K)) := fun M H vs ds z Q sm hb e q => by
  unfold addD at e
  split at e
  · cases e
    obtain ⟨v, w, rfl, h1, h2⟩ := hb.two
    exact .inl ⟨_, _, h1.int, h2.int, q _ _ (.old (.int _))⟩
  · split at e
    · rename_i hz
      cases e
      obtain ⟨v, w, rfl, h1, h2⟩ := hb.two
      exact .inr (.inl ⟨_, _, h1.str, h2.str, line_of hz, q _ _ (.old (.str _))⟩)
    · cases e
  · split at e
    · rename_i hz
      cases e
      obtain ⟨v, w, rfl, h1, h2⟩ := hb.two
      obtain ⟨a, xs, rfl, a1, a2⟩ := h1.lstA sm
      obtain ⟨b, ys, rfl, b1, b2⟩ := h2.lstA sm
      exact .inr (.inr (.inl ⟨a, b, xs, ys, rfl, rfl, a1, b1, line_of (by rw [a2.1, b2.1]; exact hz), fun p n => q _ _ (.new n (.lstA (a2.app b2)))⟩))
    · cases e
  · split at e
    · rename_i l m hz
      cases e
      obtain ⟨v, w, rfl, h1, h2⟩ := hb.two
      have t1 := h1.tupAt
      have t2 := h2.tupAt
      obtain ⟨a, xs, rfl, a1, a2⟩ := h1.tupA sm
      obtain ⟨b, ys, rfl, b1, b2⟩ := h2.tupA sm
      refine .inr (.inr (.inr ⟨a, b, xs, ys, rfl, rfl, a1, b1, line_of (by rw [a2.1, b2.1]; exact hz), fun e => ?_, fun _ e => ?_, fun _ _ p n => q _ _ (.new n (.tupA (a2.app b2)))⟩))
      · have : l = [] := List.length_eq_zero_iff.mp (by rw [← a2.1, e]; rfl)
        subst this; exact q _ _ (.old t2)
      · have : m = [] := List.length_eq_zero_iff.mp (by rw [← b2.1, e]; rfl)
        subst this; rw [List.append_nil] at q; exact q _ _ (.old t1)
    · cases e
  · cases e
theorem on_cat : OpN cl K (.ls .fz) catD (k2 (rAddD K)) := fun M H vs ds z Q sm hb e q => by
  unfold catD at e
  split at e
  · split at e
    · rename_i hz
      cases e
      obtain ⟨v, w, rfl, h1, h2⟩ := hb.two
      obtain ⟨a, xs, rfl, a1, a2⟩ := h1.lstA sm
      obtain ⟨b, ys, rfl, b1, b2⟩ := h2.lstA sm
      exact .inr (.inr (.inl ⟨a, b, xs, ys, rfl, rfl, a1, b1, line_of (by rw [a2.1, b2.1]; exact hz), fun p n => q _ _ n rfl (.lstA (a2.app b2))⟩))
    · cases e
  · cases e
theorem AtsL.rep (h : AtsL cl K M xs l) : ∀ n, AtsL cl K M (List.replicate n xs).flatten (List.replicate n l).flatten
  | 0 => ⟨rfl, fun i v d e => by simp at e⟩
  | n + 1 => by rw [List.replicate_succ, List.replicate_succ, List.flatten_cons, List.flatten_cons]; exact h.app (h.rep n)
theorem os_mul : OpS cl K mulD (k2 (rMulD K)) := fun M H vs ds z Q sm hb e q => by
  unfold mulD at e
  split at e
  · split at e
    · rename_i hc
      cases e
      obtain ⟨v, w, rfl, h1, h2⟩ := hb.two
      rcases hc with hc | hc
      · exact .inl ⟨_, _, h1.int, h2.int, hc, q _ _ (.old (.int _))⟩
      · exact .inr (.inl ⟨_, _, h1.int, h2.int, hc, q _ _ (.old (.int _))⟩)
    · cases e
  · split at e
    · rename_i hz
      cases e
      obtain ⟨v, w, rfl, h1, h2⟩ := hb.two
      obtain ⟨a, xs, rfl, a1, a2⟩ := h1.lstA sm
      obtain ⟨i1, i2⟩ := inR_at hz.1
      exact .inr (.inr (.inl ⟨a, _, xs, rfl, h2.int, a1, by omega, by omega, line_of (by rw [a2.1]; exact hz.2), fun p n => q _ _ (.new n (.lstA (a2.rep _)))⟩))
    · cases e
  · cases e
theorem on_rep : OpN cl K (.ls .fz) repD (k2 (rMulD K)) := fun M H vs ds z Q sm hb e q => by
  unfold repD at e
  split at e
  · split at e
    · rename_i hz
      cases e
      obtain ⟨v, w, rfl, h1, h2⟩ := hb.two
      obtain ⟨a, xs, rfl, a1, a2⟩ := h1.lstA sm
      obtain ⟨i1, i2⟩ := inR_at hz.1
      exact .inr (.inr (.inl ⟨a, _, xs, rfl, h2.int, a1, by omega, by omega, line_of (by rw [a2.1]; exact hz.2), fun p n => q _ _ n rfl (.lstA (a2.rep _))⟩))
    · cases e
  · cases e
theorem os_div : OpS cl K divD (k2 rDivD) := fun M H vs ds z Q sm hb e q => by
  unfold divD at e
  split at e
  · split at e
    · rename_i hc
      cases e
      obtain ⟨v, w, rfl, h1, h2⟩ := hb.two
      rcases hc with hc | hc
      · exact .inl ⟨_, _, h1.int, h2.int, hc, q _ _ (.old (.int _))⟩
      · exact .inr ⟨_, _, h1.int, h2.int, hc, q _ _ (.old (.int _))⟩
    · cases e
  · cases e
theorem os_sub : OpS cl K subD (k2 (rI0 fun i j => .int (i - j))) := os_ii0 (gd := fun i j => .int (i - j)) (fun ds z e => by unfold subD at e; split at e <;> cases e; exact ⟨_, _, rfl, rfl⟩) fun _ _ _ => .int _
theorem os_and : OpS cl K andD (k2 (rI0 fun i j => .int (Builtin.bitAnd i j))) := os_ii0 (gd := fun i j => .int (Builtin.bitAnd i j)) (fun ds z e => by unfold andD at e; split at e <;> cases e; exact ⟨_, _, rfl, rfl⟩) fun _ _ _ => .int _
theorem os_or : OpS cl K orD (k2 (rI0 fun i j => .int (Builtin.bitOr i j))) := os_ii0 (gd := fun i j => .int (Builtin.bitOr i j)) (fun ds z e => by unfold orD at e; split at e <;> cases e; exact ⟨_, _, rfl, rfl⟩) fun _ _ _ => .int _
theorem os_xor : OpS cl K xorD (k2 (rI0 fun i j => .int (Builtin.bitXor i j))) := os_ii0 (gd := fun i j => .int (Builtin.bitXor i j)) (fun ds z e => by unfold xorD at e; split at e <;> cases e; exact ⟨_, _, rfl, rfl⟩) fun _ _ _ => .int _
theorem os_mod : OpS cl K modD (k2 (rI (fun _ j => 0 < j) fun i j => .int (i % j))) := os_ii (C := fun _ j => 0 < j) (gd := fun i j => .int (i % j)) (fun ds z e => by unfold modD at e; split at e; (split at e <;> cases e; exact ⟨_, _, rfl, by assumption, rfl⟩); cases e) (fun _ _ h => h) fun _ _ _ => .int _
theorem os_pow : OpS cl K powD (k2 (rI CPow fun i j => .int (i ^ j.toNat))) := os_ii (C := CPow) (gd := fun i j => .int (i ^ j.toNat)) (fun ds z e => by unfold powD at e; split at e; (split at e <;> cases e; exact ⟨_, _, rfl, by assumption, rfl⟩); cases e) (fun _ _ h => h) fun _ _ _ => .int _
theorem os_shl : OpS cl K shlD (k2 (rI CPow fun i j => .int (i * 2 ^ j.toNat))) := os_ii (C := CPow) (gd := fun i j => .int (i * 2 ^ j.toNat)) (fun ds z e => by unfold shlD at e; split at e; (split at e <;> cases e; exact ⟨_, _, rfl, by assumption, rfl⟩); cases e) (fun _ _ h => h) fun _ _ _ => .int _
theorem os_shr : OpS cl K shrD (k2 (rI (fun _ j => 0 ≤ j) fun i j => .int (i / 2 ^ j.toNat))) := os_ii (C := fun _ j => 0 ≤ j) (gd := fun i j => .int (i / 2 ^ j.toNat)) (fun ds z e => by unfold shrD at e; split at e; (split at e <;> cases e; exact ⟨_, _, rfl, by assumption, rfl⟩); cases e) (fun _ _ h => h) fun _ _ _ => .int _
theorem os_neg : OpS cl K negD (k1 (rU fun i => .int (-i))) := fun M H vs ds z Q sm hb e q => by
  unfold negD at e
  split at e
  · cases e
    obtain ⟨v, rfl, h⟩ := hb.one
    exact ⟨_, h.int, q _ _ (.old (.int _))⟩
  · cases e
theorem os_lt : OpS cl K ltD (k2 rLtD) := fun M H vs ds z Q sm hb e q => by
  unfold ltD at e
  split at e
  · cases e; obtain ⟨v, w, rfl, h1, h2⟩ := hb.two; exact .inl ⟨_, _, h1.int, h2.int, q _ _ (.old (.bl _))⟩
  · cases e; obtain ⟨v, w, rfl, h1, h2⟩ := hb.two; exact .inr ⟨_, _, h1.str, h2.str, q _ _ (.old (.bl _))⟩
  · cases e
theorem os_le : OpS cl K leD (k2 rLeD) := fun M H vs ds z Q sm hb e q => by
  unfold leD at e
  split at e
  · cases e; obtain ⟨v, w, rfl, h1, h2⟩ := hb.two; exact .inl ⟨_, _, h1.int, h2.int, q _ _ (.old (.bl _))⟩
  · cases e; obtain ⟨v, w, rfl, h1, h2⟩ := hb.two; exact .inr ⟨_, _, h1.str, h2.str, q _ _ (.old (.bl _))⟩
  · cases e
theorem os_gt : OpS cl K gtD (k2 rGtD) := fun M H vs ds z Q sm hb e q => by
  unfold gtD at e
  split at e
  · cases e; obtain ⟨v, w, rfl, h1, h2⟩ := hb.two; exact .inl ⟨_, _, h1.int, h2.int, q _ _ (.old (.bl _))⟩
  · cases e; obtain ⟨v, w, rfl, h1, h2⟩ := hb.two; exact .inr ⟨_, _, h1.str, h2.str, q _ _ (.old (.bl _))⟩
  · cases e
theorem os_ge : OpS cl K geD (k2 rGeD) := fun M H vs ds z Q sm hb e q => by
  unfold geD at e
  split at e
  · cases e; obtain ⟨v, w, rfl, h1, h2⟩ := hb.two; exact .inl ⟨_, _, h1.int, h2.int, q _ _ (.old (.bl _))⟩
  · cases e; obtain ⟨v, w, rfl, h1, h2⟩ := hb.two; exact .inr ⟨_, _, h1.str, h2.str, q _ _ (.old (.bl _))⟩
  · cases e
end
section
variable {cl : Str → Option Addr} {K : PySem.W.Frag} {c : Fx} {M H : Hp} {v w : V} {d : Dt} {xs ys : List V} {l m : List Dt} {vs : List V} {ds : List Dt} {ss : Ss} {tA : TA} {as : List AE} {te tb : TE} {e : EM Dt}
/-! == -/
theorem toPs_at : ∀ {l : List Dt} {ps : List PyData}, toPs l = some ps → l.length = ps.length ∧ ∀ (i : Nat) d p, l[i]? = some d → ps[i]? = some p → toP d = some p
  | [], ps, h => by cases h; exact ⟨rfl, fun i d p h => by simp at h⟩
  | d :: l, ps, h => by
    simp only [toPs] at h
    split at h
    · rename_i p qs hp hq
      cases h
      obtain ⟨h1, h2⟩ := toPs_at hq
      refine ⟨by simp [h1], fun i d' p' e1 e2 => ?_⟩
      cases i with
      | zero => simp at e1 e2; rw [← e1, ← e2]; exact hp
      | succ i => exact h2 i d' p' (by simpa using e1) (by simpa using e2)
    · cases h
theorem dpAll_of {ps : List PyData} (hl : xs.length = ps.length) (h : ∀ (i : Nat) v p, xs[i]? = some v → ps[i]? = some p → Dp K H v p) : DpAll K H xs ps := by
  induction xs generalizing ps with
  | nil => cases ps with
    | nil => exact .nil
    | cons p ps => cases hl
  | cons x xs ih => cases ps with
    | nil => cases hl
    | cons p ps => exact .cons (h 0 x p rfl rfl) (ih (by simpa using hl) fun i v p e1 e2 => h (i + 1) v p (by simpa using e1) (by simpa using e2))
theorem At.dp (sm : Same M H) (h : At cl K M v d) : ∀ p, toP d = some p → Dp K H v p := by
  have all : ∀ {xs : List V} {ds : List Dt} {ps : List PyData}, xs.length = ds.length → (∀ (i : Nat) v d, xs[i]? = some v → ds[i]? = some d → ∀ p, toP d = some p → Dp K H v p) → toPs ds = some ps → DpAll K H xs ps := fun hl ih hps => by
    obtain ⟨h1, h2⟩ := toPs_at hps
    refine dpAll_of (hl.trans h1) fun i v p e1 e2 => ?_
    rename_i ds ps
    have hi : i < ds.length := by rw [h1]; exact (List.getElem?_eq_some_iff.mp e2).1
    exact ih i v ds[i] e1 (List.getElem?_eq_getElem hi) p (h2 i _ p (List.getElem?_eq_getElem hi) e2)
  induction h with
  | non => intro p hp; simp [toP] at hp; subst hp; exact .non
  | bl b => intro p hp; simp [toP] at hp; subst hp; exact .bl b
  | int b => intro p hp; simp [toP] at hp; subst hp; exact .int b
  | str b => intro p hp; simp [toP] at hp; subst hp; exact .str b
  | ty b => intro p hp; simp [toP] at hp
  | lst h1 h2 h3 ih =>
    intro p hp
    simp only [toP, Option.map_eq_some_iff] at hp
    obtain ⟨ps, hps, rfl⟩ := hp
    exact .lst (SqL.of (sm _ _ h1)) (all h2 ih hps)
  | rol h1 h2 h3 ih =>
    intro p hp
    simp only [toP, Option.map_eq_some_iff] at hp
    obtain ⟨ps, hps, rfl⟩ := hp
    exact .lst (sm.seq h1) (all h2 ih hps)
  | tup h1 h2 h3 ih =>
    intro p hp
    simp only [toP, Option.map_eq_some_iff] at hp
    obtain ⟨ps, hps, rfl⟩ := hp
    exact .tup (sqt_same sm h1) (all h2 ih hps)
  | dic _ _ _ _ => intro p hp; simp [toP] at hp
  | dit _ _ _ _ _ => intro p hp; simp [toP] at hp
  | rdt _ _ _ _ _ => intro p hp; simp [toP] at hp
  | rdc _ _ _ _ => intro p hp; simp [toP] at hp
  | obj _ _ _ _ => intro p hp; simp [toP] at hp
theorem Bor.dp (sm : Same M H) (h : Bor cl K M H v d) {p : PyData} (e : toP d = some p) : Dp K H v p := by
  cases h with
  | «at» h => exact h.dp sm p e
  | new hn h1 h => cases h with
    | lst h2 h3 =>
      simp only [toP, Option.map_eq_some_iff] at e
      obtain ⟨ps, hps, rfl⟩ := e
      obtain ⟨q1, q2⟩ := toPs_at hps
      rename_i xs ds
      refine .lst (SqL.of h1) (dpAll_of (h2.trans q1) fun i v p e1 e2 => ?_)
      have hi : i < ds.length := by rw [q1]; exact (List.getElem?_eq_some_iff.mp e2).1
      exact (h3 i v ds[i] e1 (List.getElem?_eq_getElem hi)).dp sm p (q2 i _ p (List.getElem?_eq_getElem hi) e2)
    | tup h2 h3 => exact absurd rfl hn
    | dic _ _ _ => simp [toP] at e
    | dit _ _ _ => simp [toP] at e
theorem eqB_shape {a b : Dt} {k : Bool} (e : eqB a b = some k) : (∃ i j, a = .int i ∧ b = .int j ∧ k = decide (i = j)) ∨ (∃ i j, a = .str i ∧ b = .str j ∧ k = decide (i = j)) ∨ (∃ i j, a = .bl i ∧ b = .bl j ∧ k = decide (i = j)) ∨ eqG a b = some k := by
  unfold eqB at e
  split at e
  · cases e; exact .inl ⟨_, _, rfl, rfl, rfl⟩
  · cases e; exact .inr (.inl ⟨_, _, rfl, rfl, rfl⟩)
  · cases e; exact .inr (.inr (.inl ⟨_, _, rfl, rfl, rfl⟩))
  · exact .inr (.inr (.inr e))
theorem os_eq : OpS cl K eqD (k2 (rEqDD K)) := fun M H vs ds z Q sm hb e q => by
  unfold eqD at e
  split at e
  · rename_i a b
    cases hk : eqB a b with
    | none => rw [hk] at e; cases e
    | some k =>
      rw [hk] at e
      cases e
      obtain ⟨v, w, rfl, h1, h2⟩ := hb.two
      have fin : Q (.bl k) H := q _ _ (.old (.bl k))
      rcases eqB_shape hk with ⟨i, j, rfl, rfl, rfl⟩ | ⟨i, j, rfl, rfl, rfl⟩ | ⟨i, j, rfl, rfl, rfl⟩ | hg
      · obtain rfl := h1.int
        obtain rfl := h2.int
        refine .inl ⟨rfl, ?_⟩
        rw [show decide (V.int i = V.int j) = decide (i = j) by rw [dec_int]; exact (Bool.beq_eq_decide_eq i j)]
        exact fin
      · obtain rfl := h1.str
        obtain rfl := h2.str
        refine .inl ⟨rfl, ?_⟩
        rw [show decide (V.str i = V.str j) = decide (i = j) by rw [dec_str]; exact (Bool.beq_eq_decide_eq i j)]
        exact fin
      · obtain rfl := h1.bl
        obtain rfl := h2.bl
        refine .inl ⟨rfl, ?_⟩
        rw [show decide (V.bl i = V.bl j) = decide (i = j) by rw [dec_bl]; exact (Bool.beq_eq_decide_eq i j)]
        exact fin
      · unfold eqG at hg
        split at hg
        · rename_i p r hp hr
          split at hg
          · rename_i hs
            cases hg
            simp only [Bool.and_eq_true] at hs
            exact .inr ⟨p, r, h1.dp sm hp, h2.dp sm hr, hs.1, hs.2, fin⟩
          · cases hg
        · cases hg
  · cases e
theorem os_ne : OpS cl K neD (k2 (rNeDD K)) := fun M H vs ds z Q sm hb e q => by
  unfold neD at e
  split at e
  · rename_i a b
    cases hk : eqB a b with
    | none => rw [hk] at e; cases e
    | some k =>
      rw [hk] at e
      cases e
      obtain ⟨v, w, rfl, h1, h2⟩ := hb.two
      have fin : Q (.bl (!k)) H := q _ _ (.old (.bl (!k)))
      rcases eqB_shape hk with ⟨i, j, rfl, rfl, rfl⟩ | ⟨i, j, rfl, rfl, rfl⟩ | ⟨i, j, rfl, rfl, rfl⟩ | hg
      · obtain rfl := h1.int
        obtain rfl := h2.int
        refine .inl ⟨rfl, ?_⟩
        rw [show decide (V.int i = V.int j) = decide (i = j) by rw [dec_int]; exact (Bool.beq_eq_decide_eq i j)]
        exact fin
      · obtain rfl := h1.str
        obtain rfl := h2.str
        refine .inl ⟨rfl, ?_⟩
        rw [show decide (V.str i = V.str j) = decide (i = j) by rw [dec_str]; exact (Bool.beq_eq_decide_eq i j)]
        exact fin
      · obtain rfl := h1.bl
        obtain rfl := h2.bl
        refine .inl ⟨rfl, ?_⟩
        rw [show decide (V.bl i = V.bl j) = decide (i = j) by rw [dec_bl]; exact (Bool.beq_eq_decide_eq i j)]
        exact fin
      · unfold eqG at hg
        split at hg
        · rename_i p r hp hr
          split at hg
          · rename_i hs
            cases hg
            simp only [Bool.and_eq_true] at hs
            exact .inr ⟨p, r, h1.dp sm hp, h2.dp sm hr, hs.1, hs.2, fin⟩
          · cases hg
        · cases hg
  · cases e
theorem Bor.isN (h : Bor cl K M H v d) : decide (v = .non) = isN d := by
  cases h with
  | «at» h => cases h <;> simp [Pf.isN]
  | new hn h1 h => cases h <;> simp [Pf.isN]
theorem os_isN : OpS cl K isND (k2 fun x y H Q => y = .non ∧ Q (.bl (decide (x = .non))) H) := fun M H vs ds z Q sm hb e q => by
  unfold isND at e
  split at e
  · cases e
    obtain ⟨v, w, rfl, h1, h2⟩ := hb.two
    exact ⟨h2.non, by rw [h1.isN]; exact q _ _ (.old (.bl _))⟩
  · cases e
theorem os_notN : OpS cl K notND (k2 fun x y H Q => y = .non ∧ Q (.bl (!decide (x = .non))) H) := fun M H vs ds z Q sm hb e q => by
  unfold notND at e
  split at e
  · cases e
    obtain ⟨v, w, rfl, h1, h2⟩ := hb.two
    exact ⟨h2.non, by rw [h1.isN]; exact q _ _ (.old (.bl _))⟩
  · cases e
/-! places -/
theorem AtsL.atI (h : AtsL cl K M xs l) {i : Int} (e : atI l i = some d) : ∃ v, atI xs i = some v ∧ At cl K M v d := by
  unfold L2.atI at e ⊢
  rw [← h.1] at e
  cases hk : ixN xs.length i with
  | none => rw [hk] at e; cases e
  | some j =>
    rw [hk] at e
    exact h.at e
theorem os_ix : OpS cl K ixD (k2 (rIx K)) := fun M H vs ds z Q sm hb e q => by
  unfold ixD at e
  split at e
  · obtain ⟨v, w, rfl, h1, h2⟩ := hb.two
    obtain ⟨a, xs, rfl, a1, a2⟩ := h1.lstA sm
    obtain ⟨u, u1, u2⟩ := a2.atI e
    exact .inl ⟨a, xs, _, u, rfl, h2.int, SqL.of a1, u1, q _ _ (.old u2)⟩
  · obtain ⟨v, w, rfl, h1, h2⟩ := hb.two
    obtain ⟨a, xs, rfl, a1, a2⟩ := h1.lstsA sm rfl
    obtain ⟨u, u1, u2⟩ := a2.atI e
    exact .inl ⟨a, xs, _, u, rfl, h2.int, a1, u1, q _ _ (.old u2)⟩
  · obtain ⟨v, w, rfl, h1, h2⟩ := hb.two
    obtain ⟨a, xs, rfl, a1, a2⟩ := h1.tupA sm
    obtain ⟨u, u1, u2⟩ := a2.atI e
    exact .inr (.inl ⟨a, xs, _, u, rfl, h2.int, a1, u1, q _ _ (.old u2)⟩)
  · split at e
    · rename_i hz
      obtain ⟨v, w, rfl, h1, h2⟩ := hb.two
      rename_i x i
      cases hc : atI x.cps.toList i with
      | none => rw [hc] at e; cases e
      | some ch =>
        rw [hc] at e
        cases e
        exact .inr (.inr ⟨x, i, ch, h1.str, h2.int, line_of hz, hc, q _ _ (.old (.str _))⟩)
    · cases e
  · cases e
/-! built-in functions -/
theorem call_lenD' {X : Cx} (K : PySem.W.Frag) (eK : X.K = K := by rfl) : CallR X (.builtin "len") (fun xs H Q => rLenS K xs H Q ∨ ∃ z, xs = [.str z] ∧ z.length ≤ sizeLine ∧ Q (.int z.length) H) := by
  subst eK
  intro pins s σ H xs us Q I r h
  rcases h with h | h
  · exact call_len_seq pins s σ H xs us Q I r h
  · exact call_len_str pins s σ H xs us Q I r h
theorem os_len : OpS cl K lenD (fun xs H Q => rLenS K xs H Q ∨ ∃ z, xs = [.str z] ∧ z.length ≤ sizeLine ∧ Q (.int z.length) H) := fun M H vs ds z Q sm hb e q => by
  unfold lenD at e
  split at e
  · cases e
    obtain ⟨v, rfl, h⟩ := hb.one
    obtain ⟨a, xs, rfl, a1, a2⟩ := h.lstA sm
    exact .inl ⟨a, xs, rfl, .inl (SqL.of a1), by rw [a2.1]; exact q _ _ (.old (.int _))⟩
  · cases e
    obtain ⟨v, rfl, h⟩ := hb.one
    obtain ⟨a, xs, rfl, a1, a2⟩ := h.lstsA sm rfl
    exact .inl ⟨a, xs, rfl, .inl a1, by rw [a2.1]; exact q _ _ (.old (.int _))⟩
  · cases e
    obtain ⟨v, rfl, h⟩ := hb.one
    obtain ⟨a, xs, rfl, a1, a2⟩ := h.tupA sm
    exact .inl ⟨a, xs, rfl, .inr a1, by rw [a2.1]; exact q _ _ (.old (.int _))⟩
  · split at e
    · rename_i hz
      cases e
      obtain ⟨v, rfl, h⟩ := hb.one
      exact .inr ⟨_, by rw [h.str], line_of hz, q _ _ (.old (.int _))⟩
    · cases e
  · cases e
theorem on_list : OpN cl K (.ls .fz) listD (rListOf K) := fun M H vs ds z Q sm hb e q => by
  unfold listD at e
  split at e
  · cases e
    obtain ⟨v, rfl, h⟩ := hb.one
    obtain ⟨a, xs, rfl, a1, a2⟩ := h.lstA sm
    exact ⟨a, xs, rfl, .inl (SqL.of a1), fun p n => q _ _ n rfl (.lstA a2)⟩
  · cases e
    obtain ⟨v, rfl, h⟩ := hb.one
    obtain ⟨a, xs, rfl, a1, a2⟩ := h.lstsA sm rfl
    exact ⟨a, xs, rfl, .inl a1, fun p n => q _ _ n rfl (.lstA a2)⟩
  · cases e
    obtain ⟨v, rfl, h⟩ := hb.one
    obtain ⟨a, xs, rfl, a1, a2⟩ := h.tupA sm
    exact ⟨a, xs, rfl, .inr a1, fun p n => q _ _ n rfl (.lstA a2)⟩
  · cases e
theorem os_tuple : OpS cl K tupleD (rTupOf K) := fun M H vs ds z Q sm hb e q => by
  unfold tupleD at e
  split at e
  · cases e
    obtain ⟨v, rfl, h⟩ := hb.one
    obtain ⟨a, xs, rfl, a1, a2⟩ := h.lstA sm
    exact ⟨a, xs, rfl, .inl ⟨SqL.of a1, fun p n => q _ _ (.new n (.tupA a2))⟩⟩
  · cases e
    obtain ⟨v, rfl, h⟩ := hb.one
    obtain ⟨a, xs, rfl, a1, a2⟩ := h.lstsA sm rfl
    exact ⟨a, xs, rfl, .inl ⟨a1, fun p n => q _ _ (.new n (.tupA a2))⟩⟩
  · cases e
    obtain ⟨v, rfl, h⟩ := hb.one
    have t := h.tupAt
    obtain ⟨a, xs, rfl, a1, a2⟩ := h.tupA sm
    exact ⟨a, xs, rfl, .inr ⟨a1, q _ _ (.old t)⟩⟩
  · cases e
theorem os_int : OpS cl K intD (fun xs H Q => (∃ i, xs = [.int i] ∧ Q (.int i) H) ∨ ∃ k, xs = [.bl k] ∧ Q (.int (if k then 1 else 0)) H) := fun M H vs ds z Q sm hb e q => by
  unfold intD at e
  split at e
  · cases e
    obtain ⟨v, rfl, h⟩ := hb.one
    exact .inl ⟨_, by rw [h.int], q _ _ (.old (.int _))⟩
  · cases e
    obtain ⟨v, rfl, h⟩ := hb.one
    exact .inr ⟨_, by rw [h.bl], q _ _ (.old (.int _))⟩
  · cases e
theorem os_max2 : OpS cl K max2D (fun xs H Q => ∃ i j, xs = [.int i, .int j] ∧ Q (.int (if j > i then j else i)) H) := fun M H vs ds z Q sm hb e q => by
  unfold max2D at e
  split at e
  · cases e
    obtain ⟨v, w, rfl, h1, h2⟩ := hb.two
    exact ⟨_, _, by rw [h1.int, h2.int], q _ _ (.old (.int _))⟩
  · cases e
theorem os_min2 : OpS cl K min2D (fun xs H Q => ∃ i j, xs = [.int i, .int j] ∧ Q (.int (if j < i then j else i)) H) := fun M H vs ds z Q sm hb e q => by
  unfold min2D at e
  split at e
  · cases e
    obtain ⟨v, w, rfl, h1, h2⟩ := hb.two
    exact ⟨_, _, by rw [h1.int, h2.int], q _ _ (.old (.int _))⟩
  · cases e
theorem intsD_at : ∀ {l : List Dt} {ns : List Int}, intsD l = some ns → l = ns.map .int
  | [], ns, h => by cases h; rfl
  | .int i :: l, ns, h => by
    simp only [intsD, Option.map_eq_some_iff] at h
    obtain ⟨ms, h1, rfl⟩ := h
    rw [intsD_at h1]; rfl
  | .non :: _, _, h | .bl _ :: _, _, h | .str _ :: _, _, h | .ty _ :: _, _, h | .lst _ :: _, _, h | .rol _ :: _, _, h | .tup _ :: _, _, h | .dic _ :: _, _, h | .obj _ _ :: _, _, h => by simp [intsD] at h
theorem blsD_at : ∀ {l : List Dt} {ns : List Bool}, blsD l = some ns → l = ns.map .bl
  | [], ns, h => by cases h; rfl
  | .bl i :: l, ns, h => by
    simp only [blsD, Option.map_eq_some_iff] at h
    obtain ⟨ms, h1, rfl⟩ := h
    rw [blsD_at h1]; rfl
  | .non :: _, _, h | .int _ :: _, _, h | .str _ :: _, _, h | .ty _ :: _, _, h | .lst _ :: _, _, h | .rol _ :: _, _, h | .tup _ :: _, _, h | .dic _ :: _, _, h | .obj _ _ :: _, _, h => by simp [blsD] at h
theorem AtsL.ints {ns : List Int} (h : AtsL cl K M xs (ns.map .int)) : xs = ns.map .int := by
  refine List.ext_getElem? fun i => ?_
  cases e : xs[i]? with
  | none =>
    have : ns.length ≤ i := by have := List.getElem?_eq_none_iff.mp e; rw [h.1] at this; simpa using this
    rw [List.getElem?_eq_none (by simpa using this)]
  | some v =>
    have hi : i < ns.length := by have := (List.getElem?_eq_some_iff.mp e).1; rw [h.1] at this; simpa using this
    have e2 : (ns.map Dt.int)[i]? = some (.int ns[i]) := by rw [List.getElem?_map, List.getElem?_eq_getElem hi]; rfl
    have := h.2 i v _ e e2
    cases this
    rw [List.getElem?_map, List.getElem?_eq_getElem hi]; rfl
theorem AtsL.bls {ns : List Bool} (h : AtsL cl K M xs (ns.map .bl)) : xs = ns.map .bl := by
  refine List.ext_getElem? fun i => ?_
  cases e : xs[i]? with
  | none =>
    have : ns.length ≤ i := by have := List.getElem?_eq_none_iff.mp e; rw [h.1] at this; simpa using this
    rw [List.getElem?_eq_none (by simpa using this)]
  | some v =>
    have hi : i < ns.length := by have := (List.getElem?_eq_some_iff.mp e).1; rw [h.1] at this; simpa using this
    have e2 : (ns.map Dt.bl)[i]? = some (.bl ns[i]) := by rw [List.getElem?_map, List.getElem?_eq_getElem hi]; rfl
    have := h.2 i v _ e e2
    cases this
    rw [List.getElem?_map, List.getElem?_eq_getElem hi]; rfl
theorem os_sum : OpS cl K sumD (rSum K) := fun M H vs ds z Q sm hb e q => by
  unfold sumD at e
  split at e
  · split at e
    · rename_i l hl
      simp only [Option.map_eq_some_iff] at e
      obtain ⟨ns, hn, rfl⟩ := e
      obtain ⟨v, rfl, h⟩ := hb.one
      obtain ⟨a, xs, rfl, a1, a2⟩ := h.lstsA sm hl
      rw [intsD_at hn] at a2
      rw [a2.ints] at a1
      exact ⟨a, ns, rfl, a1, q _ _ (.old (.int _))⟩
    · cases e
  · cases e
theorem os_all : OpS cl K allD (rAll K) := fun M H vs ds z Q sm hb e q => by
  unfold allD at e
  split at e
  · split at e
    · rename_i l hl
      simp only [Option.map_eq_some_iff] at e
      obtain ⟨ns, hn, rfl⟩ := e
      obtain ⟨v, rfl, h⟩ := hb.one
      obtain ⟨a, xs, rfl, a1, a2⟩ := h.lstsA sm hl
      rw [blsD_at hn] at a2
      rw [a2.bls] at a1
      exact ⟨a, ns, rfl, a1, q _ _ (.old (.bl _))⟩
    · cases e
  · cases e
theorem os_any : OpS cl K anyD (rAny K) := fun M H vs ds z Q sm hb e q => by
  unfold anyD at e
  split at e
  · split at e
    · rename_i l hl
      simp only [Option.map_eq_some_iff] at e
      obtain ⟨ns, hn, rfl⟩ := e
      obtain ⟨v, rfl, h⟩ := hb.one
      obtain ⟨a, xs, rfl, a1, a2⟩ := h.lstsA sm hl
      rw [blsD_at hn] at a2
      rw [a2.bls] at a1
      exact ⟨a, ns, rfl, a1, q _ _ (.old (.bl _))⟩
    · cases e
  · cases e
/-! isinstance with a built-in class -/
def tyD : Dt → Option String
  | .non => some "NoneType"
  | .bl _ => some "bool"
  | .int _ => some "int"
  | .str _ => some "str"
  | .lst _ => some "list"
  | .rol _ => some "list"
  | .tup _ => some "tuple"
  | _ => none
def subT (a b : String) : Bool := a == b || (a == "bool" && b == "int")
def isiD (T : String) : List Dt → Option Dt
  | [d] => (tyD d).map fun t => .bl (subT t T)
  | _ => none
def KitOk (T : String) : Prop := kitB "NoneType" T = some (subT "NoneType" T) ∧ kitB "bool" T = some (subT "bool" T) ∧ kitB "int" T = some (subT "int" T) ∧ kitB "str" T = some (subT "str" T) ∧ kitB "list" T = some (subT "list" T) ∧ kitB "tuple" T = some (subT "tuple" T) ∧ kitB "dict" T = some (subT "dict" T)
theorem kit_int : KitOk "int" := by unfold KitOk; decide +kernel
theorem kit_bool : KitOk "bool" := by unfold KitOk; decide +kernel
theorem kit_str : KitOk "str" := by unfold KitOk; decide +kernel
theorem kit_list : KitOk "list" := by unfold KitOk; decide +kernel
theorem kit_tuple : KitOk "tuple" := by unfold KitOk; decide +kernel
theorem kit_dict : KitOk "dict" := by unfold KitOk; decide +kernel
theorem Bor.tyx (sm : Same M H) (h : Bor cl K M H v d) {t : String} (e : tyD d = some t) : TyX K H v (.type t) := by
  cases d with
  | non => cases e; obtain rfl := h.non; exact tyx_non
  | bl b => cases e; obtain rfl := h.bl; exact tyx_bl b
  | int b => cases e; obtain rfl := h.int; exact tyx_int b
  | str b => cases e; obtain rfl := h.str; exact tyx_str b
  | lst l => cases e; obtain ⟨a, xs, rfl, a1, _⟩ := h.lstA sm; exact tyx_list (SqL.of a1)
  | rol l => cases e; obtain ⟨a, xs, rfl, a1, _⟩ := h.lstsA sm rfl; exact tyx_list a1
  | tup l => cases e; obtain ⟨a, xs, rfl, a1, _⟩ := h.tupA sm; exact tyx_tup a1
  | _ => cases e
theorem os_isi {T : String} (hk : KitOk T) : OpS cl K (isiD T) (fun xs H Q => match xs with | [x] => rIsi K [x, .ty T] H Q | _ => False) := fun M H vs ds z Q sm hb e q => by
  unfold isiD at e
  split at e
  · rename_i d
    simp only [Option.map_eq_some_iff] at e
    obtain ⟨t, ht, rfl⟩ := e
    obtain ⟨v, rfl, h⟩ := hb.one
    have fin : Q (.bl (subT t T)) H := q _ _ (.old (.bl _))
    refine ⟨v, .ty T, .type t, .type T, subT t T, rfl, .ty T, h.tyx sm ht, kit_ty ?_, fin⟩
    obtain ⟨k1, k2, k3, k4, k5, k6, k7⟩ := hk
    cases d <;> simp only [tyD] at ht <;> first | (cases ht; assumption) | cases ht
  · cases e
/-- isinstance(x, T) -/
theorem se_isi {T : String} (hk : KitOk T) {as : List AE} (ha : SA cl K c ss (tCons te tNil) as) (hf : flatAs ss as = true := by rfl) : SE cl K c ss .fz (tCB (rIsi K) (tCons te (tCons (tC (.ty T)) tNil))) (eOp (isiD T) as) := fun B Ai ρ σ H Q R p => se_op (k := fun xs H Q => match xs with | [x] => rIsi K [x, .ty T] H Q | _ => False) (tA := tCons te tNil) (os_isi hk) ha hf B Ai ρ σ H Q R p
end
/-! ### slices, chains, in -/
def partI (o : Option (EM Dt)) : EM (Option Int) := match o with
  | none => fun ρ => .ok none ρ
  | some e => fun ρ => (e ρ).bind fun d ρ1 => match d with | .int i => .ok (some i) ρ1 | _ => .stuck
def cutL {α : Type} (xs : List α) (lo hi : Option Int) : List α := (xs.drop (HT.sIx xs.length 0 lo)).take (HT.sIx xs.length xs.length hi - HT.sIx xs.length 0 lo)
def sliceD (d : Dt) (lo hi : Option Int) : Option Dt := match d with
  | .lst l => some (.lst (cutL l lo hi))
  | .rol l => some (.lst (cutL l lo hi))
  | .tup l => some (.tup (cutL l lo hi))
  | .str x => if x.length ≤ 16777216 then some (.str (cutS x lo hi)) else none
  | _ => none
def sliceL (d : Dt) (lo hi : Option Int) : Option Dt := match lstI d with
  | some l => some (.lst (cutL l lo hi))
  | none => none
def eSl (f : Dt → Option Int → Option Int → Option Dt) (a : AE) (lo hi : Option (EM Dt)) : EM Dt := match a with
  | .val e => fun ρ => (e ρ).bind fun d ρ1 => (partI lo ρ1).bind fun i ρ2 => (partI hi ρ2).bind fun j ρ3 => match f d i j with | some z => .ok z ρ3 | none => .stuck
  | .own k => fun ρ => if (gv ρ k).isSome then (partI lo ρ).bind fun i ρ2 => (partI hi ρ2).bind fun j ρ3 => (match gv ρ3 k with | some d => (match f d i j with | some z => .ok z ρ3 | none => .stuck) | none => .stuck) else .stuck
  | .fld cs k g => fun ρ => if ((gv ρ k).bind (fldC cs · g)).isSome then (partI lo ρ).bind fun i ρ2 => (partI hi ρ2).bind fun j ρ3 => (match (gv ρ3 k).bind (fldC cs · g) with | some d => (match f d i j with | some z => .ok z ρ3 | none => .stuck) | none => .stuck) else .stuck
section
variable (cl : Str → Option Addr) (K : PySem.W.Frag) (c : Fx)
def OPost (B : Addr → Prop) (Ai : Nat → Addr → Prop) (ss : Ss) (σ : L2.St) (H : Hp) (Q : Option Int → Hp → Prop) : Er (Option Int) → Prop
  | .ok o ρ' => ∀ Ai' H', Ext c.q B Ai H Ai' H' → Rep cl K c.F B Ai' ss ρ' σ H' → Q o H'
  | .ex e ρ' => XPost cl K c B Ai σ H e ρ'
  | .stuck => False
def SO (ss : Ss) (t : TO) (o : Option (EM Dt)) : Prop := ∀ B Ai ρ σ H Q, Rep cl K c.F B Ai ss ρ σ H → OPost cl K c B Ai ss σ H Q (partI o ρ) → t σ H Q
end
section
variable {cl : Str → Option Addr} {K : PySem.W.Frag} {c : Fx} {B : Addr → Prop} {Ai : Nat → Addr → Prop} {ss ss' : Ss} {ρ ρ' : Env} {σ : L2.St} {M H : Hp} {v : V} {d : Dt} {s : Sh} {xs : List V} {l : List Dt}
  {t ta tb te tc : TE} {e e' a b : EM Dt} {as : List AE} {lo hi : Option (EM Dt)} {tl th : TO} {f : Dt → Option Int → Option Int → Option Dt} {r : V → Option Int → Option Int → Hp → VK → Prop}
theorem so_none : SO cl K c ss tNoPart none := fun B Ai ρ σ H Q R p => p Ai H .refl R
theorem so_some (h : SE cl K c ss .fz te e) : SO cl K c ss (tPart te) (some e) := fun B Ai ρ σ H Q R p => by
  unfold partI at p
  refine h.use R (fun d ρ1 e1 v Ai1 H1 x1 R1 o1 => ?_) (fun x ρ1 e1 => by simp only [e1, Er.bind] at p; exact p) fun e1 => by simp only [e1, Er.bind] at p; exact p
  simp only [e1, Er.bind] at p
  cases d with
  | int i => exact ⟨i, Bor.int (.at o1.fzAt.1) (H := H1), p Ai1 H1 x1 R1⟩
  | _ => exact p.elim
theorem SO.use {t : TO} {o : Option (EM Dt)} {Q : Option Int → Hp → Prop} (h : SO cl K c ss t o) (R : Rep cl K c.F B Ai ss ρ σ H) (q : ∀ z ρ', partI o ρ = .ok z ρ' → ∀ Ai' H', Ext c.q B Ai H Ai' H' → Rep cl K c.F B Ai' ss ρ' σ H' → Q z H')
    (qx : ∀ x ρ', partI o ρ = .ex x ρ' → XPost cl K c B Ai σ H x ρ') (qs : partI o ρ = .stuck → False) : t σ H Q := by
  refine h B Ai ρ σ H Q R ?_
  cases er : partI o ρ with
  | ok d ρ' => exact q d ρ' er
  | ex x ρ' => exact qx x ρ' er
  | stuck => exact qs er
theorem AtsL.cut (h : AtsL cl K M xs l) (lo hi : Option Int) : AtsL cl K M (cutV xs lo hi) (cutL l lo hi) := by
  unfold cutV cutL
  rw [h.1]
  exact (h.drop _).take _
def SlS (cl : Str → Option Addr) (K : PySem.W.Frag) (s : Sh) (f : Dt → Option Int → Option Int → Option Dt) (r : V → Option Int → Option Int → Hp → VK → Prop) : Prop :=
  ∀ (M H : Hp) (v : V) (d z : Dt) (lo hi : Option Int) (Q : VK), Same M H → Bor cl K M H v d → f d lo hi = some z → (∀ w H', (Res cl K M H w H' z ∧ (s ≠ .fz → ∃ p o, w = .ref p ∧ H p = none ∧ hoSh o = s ∧ H' = upd H p o ∧ NewO cl K M p o z)) → Q w H') → r v lo hi H Q
theorem sl_fin {z : Dt} {w : V} {H' : Hp} (R : Rep cl K c.F B Ai ss ρ σ H) (h : Res cl K (MH B Ai H) H w H' z ∧ (s ≠ .fz → ∃ p o, w = .ref p ∧ H p = none ∧ hoSh o = s ∧ H' = upd H p o ∧ NewO cl K (MH B Ai H) p o z)) :
    ∃ Ai', Ext c.q B Ai H Ai' H' ∧ Rep cl K c.F B Ai' ss ρ σ H' ∧ Own cl K (MH B Ai' H') H' s w z (Ai' σ.length) := by
  by_cases hs : s = .fz
  · subst hs; exact R.res h.1
  · obtain ⟨p, o, rfl, n, ho, rfl, hn⟩ := h.2 hs
    subst ho
    exact R.own n hn hs
theorem se_sl (hr : SlS cl K s f r) (h : SE cl K c ss .fz te e) (h1 : SO cl K c ss tl lo) (h2 : SO cl K c ss th hi) : SE cl K c ss s (tSl r te tl th) (eSl f (.val e) lo hi) := fun B Ai ρ σ H Q R p => by
  unfold eSl at p
  refine h.use R (fun d ρ1 e1 v Ai1 H1 x1 R1 o1 => ?_) (fun x ρ1 e1 => by simp only [e1, Er.bind] at p; exact p) fun e1 => by simp only [e1, Er.bind] at p; exact p
  simp only [e1, Er.bind] at p
  refine h1.use R1 (fun i ρ2 e2 Ai2 H2 x2 R2 => ?_) (fun x ρ1 e2 => by simp only [e2] at p; exact XPost.ext x1 p) fun e2 => by simp only [e2] at p; exact p
  simp only [e2] at p
  refine h2.use R2 (fun j ρ3 e3 Ai3 H3 x3 R3 => ?_) (fun x ρ1 e3 => by simp only [e3] at p; exact XPost.ext (x1.trans x2) p) fun e3 => by simp only [e3] at p; exact p
  simp only [e3] at p
  cases e4 : f d i j with
  | none => rw [e4] at p; exact p.elim
  | some z =>
    rw [e4] at p
    refine hr _ H3 v d z i j Q mask_same (.at (o1.fzAt.1.mono (x2.trans x3).same)) e4 fun w H4 hw => ?_
    obtain ⟨Ai4, x4, R4, o4⟩ := sl_fin R3 hw
    exact p w Ai4 H4 (((x1.trans x2).trans x3).trans x4) R4 o4
theorem se_slO {k : Nat} (hr : SlS cl K s f r) (h1 : SO cl K c ss tl lo) (h2 : SO cl K c ss th hi) (hf : flatSh (sh ss k) = true := by rfl) : SE cl K c ss s (tSl r (tVar k) tl th) (eSl f (.own k) lo hi) := fun B Ai ρ σ H Q R p => by
  unfold eSl at p
  cases e0 : gv ρ k with
  | none => simp [e0] at p; exact p.elim
  | some d0 =>
    simp only [e0, Option.isSome_some, if_true] at p
    obtain ⟨v, hv, _⟩ := R.get (gv_some e0)
    refine ⟨v, hv, h1.use R (fun i ρ2 e2 Ai2 H2 x2 R2 => ?_) (fun x ρ1 e2 => by simp only [e2, Er.bind] at p; exact p) fun e2 => by simp only [e2, Er.bind] at p; exact p⟩
    simp only [e2, Er.bind] at p
    refine h2.use R2 (fun j ρ3 e3 Ai3 H3 x3 R3 => ?_) (fun x ρ1 e3 => by simp only [e3] at p; exact XPost.ext x2 p) fun e3 => by simp only [e3] at p; exact p
    simp only [e3] at p
    cases e5 : gv ρ3 k with
    | none => rw [e5] at p; exact p.elim
    | some d =>
      rw [e5] at p
      simp only at p
      cases e4 : f d i j with
      | none => rw [e4] at p; exact p.elim
      | some z =>
        rw [e4] at p
        obtain ⟨v', g1, g2⟩ := R3.get (gv_some e5)
        rw [hv] at g1
        cases g1
        refine hr _ H3 v d z i j Q mask_same (g2.bor hf) e4 fun w H4 hw => ?_
        obtain ⟨Ai4, x4, R4, o4⟩ := sl_fin R3 hw
        exact p w Ai4 H4 ((x2.trans x3).trans x4) R4 o4
/-- the rules by kind -/
abbrev rSlD (K : PySem.W.Frag) : V → Option Int → Option Int → Hp → VK → Prop := fun x lo hi H Q => rSlL K x lo hi H Q ∨ (rSlT K x lo hi H Q ∨ (∃ a xs, x = .ref a ∧ SqT K H a xs ∧ False)) ∨ rSlS x lo hi H Q
theorem slS_lst : SlS cl K (.ls .fz) sliceL (rSlL K) := fun M H v d z lo hi Q sm hb e q => by
  unfold sliceL at e
  split at e
  · rename_i l hl
    cases e
    obtain ⟨a, xs, rfl, a1, a2⟩ := hb.lstsA sm hl
    exact ⟨a, xs, rfl, a1, fun p n => q _ _ ⟨.new n (.lstA (a2.cut lo hi)), fun _ => ⟨p, _, rfl, n, rfl, rfl, .lstA (a2.cut lo hi)⟩⟩⟩
  · cases e
/-- a list or a text (a tuple's slice: rSlT where it is not the whole) -/
def sliceS (d : Dt) (lo hi : Option Int) : Option Dt := match d with
  | .str x => if x.length ≤ 16777216 then some (.str (cutS x lo hi)) else none
  | _ => none
theorem slS_str : SlS cl K .fz sliceS rSlS := fun M H v d z lo hi Q sm hb e q => by
  unfold sliceS at e
  split at e
  · split at e
    · rename_i hz
      cases e
      exact ⟨_, hb.str, line_of hz, q _ _ ⟨.old (.str _), fun h => absurd rfl h⟩⟩
    · cases e
  · cases e
def sliceT (d : Dt) (lo hi : Option Int) : Option Dt := match d with
  | .tup l => if HT.sIx l.length 0 lo = 0 ∧ HT.sIx l.length l.length hi = l.length then none else some (.tup (cutL l lo hi))
  | _ => none
theorem slS_tup : SlS cl K .fz sliceT (rSlT K) := fun M H v d z lo hi Q sm hb e q => by
  unfold sliceT at e
  split at e
  · split at e
    · cases e
    · rename_i hw
      cases e
      obtain ⟨a, xs, rfl, a1, a2⟩ := hb.tupA sm
      exact ⟨a, xs, rfl, a1, by rw [a2.1]; exact hw, fun p n => q _ _ ⟨.new n (.tupA (a2.cut lo hi)), fun h => absurd rfl h⟩⟩
  · cases e
/-- a < b < c -/
def eChain (f g : List Dt → Option Dt) (a b c : EM Dt) : EM Dt := fun ρ => (a ρ).bind fun x ρ1 => (b ρ1).bind fun y ρ2 => match f [x, y] with
  | some (.bl true) => (c ρ2).bind fun z ρ3 => (match g [y, z] with | some w => .ok w ρ3 | none => .stuck)
  | some (.bl false) => .ok (.bl false) ρ2
  | _ => .stuck
theorem se_chain {f g : List Dt → Option Dt} {r r' : R2} {e1 e2 e3 : EM Dt} (hf : OpS cl K f (k2 r)) (hg : OpS cl K g (k2 r')) (h1 : SE cl K c ss .fz ta e1) (h2 : SE cl K c ss .fz tb e2) (h3 : SE cl K c ss .fz tc e3) : SE cl K c ss .fz (tChain r r' ta tb tc) (eChain f g e1 e2 e3) := fun B Ai ρ σ H Q R p => by
  unfold eChain at p
  refine h1.use R (fun d1 ρ1 q1 v1 Ai1 H1 x1 R1 o1 => ?_) (fun x ρ1 q1 => by simp only [q1, Er.bind] at p; exact p) fun q1 => by simp only [q1, Er.bind] at p; exact p
  simp only [q1, Er.bind] at p
  refine h2.use R1 (fun d2 ρ2 q2 v2 Ai2 H2 x2 R2 o2 => ?_) (fun x ρ1 q2 => by simp only [q2] at p; exact XPost.ext x1 p) fun q2 => by simp only [q2] at p; exact p
  simp only [q2] at p
  have b1 : Bor cl K (MH B Ai2 H2) H2 v1 d1 := .at (o1.fzAt.1.mono x2.same)
  have b2 : Bor cl K (MH B Ai2 H2) H2 v2 d2 := .at o2.fzAt.1
  cases ez : f [d1, d2] with
  | none => rw [ez] at p; exact p.elim
  | some z =>
    rw [ez] at p
    refine hf _ H2 [v1, v2] [d1, d2] z _ mask_same (.cons b1 (.cons b2 .nil)) ez fun w H3 hw => ?_
    cases z with
    | bl k =>
      cases hw with
      | new n h => cases h
      | old h =>
        cases h
        refine ⟨k, rfl, ?_⟩
        cases k with
        | false =>
          obtain ⟨Ai4, x4, R4, o4⟩ := R2.res (.old (.bl false))
          exact iteF (p _ Ai4 H2 ((x1.trans x2).trans x4) R4 o4)
        | true =>
          refine iteT (h3.use R2 (fun d3 ρ3 q3 v3 Ai3 H3 x3 R3 o3 => ?_) (fun x ρ1 q3 => by simp only [q3] at p; exact XPost.ext (x1.trans x2) p) fun q3 => by simp only [q3] at p; exact p)
          simp only [q3] at p
          cases ew : g [d2, d3] with
          | none => rw [ew] at p; exact p.elim
          | some w =>
            rw [ew] at p
            refine hg _ H3 [v2, v3] [d2, d3] w _ mask_same (.cons (.at (o2.fzAt.1.mono x3.same)) (.cons (.at o3.fzAt.1) .nil)) ew fun u H4 hu => ?_
            obtain ⟨Ai4, x4, R4, o4⟩ := R3.res hu
            exact p u Ai4 H4 (((x1.trans x2).trans x3).trans x4) R4 o4
    | _ => exact p.elim
/-- x in xs, of plain data -/
def flatB : Dt → Bool
  | .non => true
  | .bl _ => true
  | .int _ => true
  | .str _ => true
  | _ => false
def eqF : Dt → Dt → Bool
  | .non, .non => true
  | .bl a, .bl b => a == b
  | .bl a, .int b => (if a then 1 else 0) == b
  | .int a, .bl b => a == (if b then 1 else 0)
  | .int a, .int b => a == b
  | .str a, .str b => a == b
  | _, _ => false
def seqI : Dt → Option (List Dt)
  | .lst l => some l
  | .rol l => some l
  | .tup l => some l
  | _ => none
def anyF (x : Dt) (l : List Dt) : Bool := l.any fun y => eqF y x
def inD : List Dt → Option Dt
  | [x, y] => (match seqI y with | some l => if flatB x && l.all flatB then some (.bl (anyF x l)) else none | none => none)
  | _ => none
def notInD : List Dt → Option Dt
  | [x, y] => (match seqI y with | some l => if flatB x && l.all flatB then some (.bl (!anyF x l)) else none | none => none)
  | _ => none
theorem At.flat (h : At cl K M v d) (hd : flatB d = true) : flatV v = true := by
  cases h <;> first | rfl | (cases hd; done)
theorem At.eqF {w : V} {z : Dt} (h : At cl K M v d) (hw : At cl K M w z) (hd : flatB d = true) (hz : flatB z = true) : eqV v w = Pf.eqF d z := by
  cases h <;> cases hw <;> first | rfl | (cases hd; done) | (cases hz; done)
theorem Bor.flatAt (h : Bor cl K M H v d) (hd : flatB d = true) : At cl K M v d := by
  cases h with
  | «at» h => exact h
  | new hn h1 h => cases h <;> cases hd
theorem Bor.seq (sm : Same M H) (h : Bor cl K M H v d) (e : seqI d = some l) : ∃ a xs, v = .ref a ∧ (SqL K H a xs ∨ SqT K H a xs) ∧ AtsL cl K M xs l := by
  cases d with
  | lst l' => cases e; obtain ⟨a, xs, h1, h2, h3⟩ := h.lstA sm; exact ⟨a, xs, h1, .inl (SqL.of h2), h3⟩
  | rol l' => cases e; obtain ⟨a, xs, h1, h2, h3⟩ := h.lstsA sm rfl; exact ⟨a, xs, h1, .inl h2, h3⟩
  | tup l' => cases e; obtain ⟨a, xs, h1, h2, h3⟩ := h.tupA sm; exact ⟨a, xs, h1, .inr h2, h3⟩
  | _ => cases e
theorem inV_at {x : V} {z : Dt} (hx : At cl K M x z) (hz : flatB z = true) : ∀ {xs : List V} {l : List Dt}, AtsL cl K M xs l → l.all flatB = true → xs.all flatV = true ∧ inV x xs = anyF z l
  | [], [], _, _ => ⟨rfl, rfl⟩
  | [], _ :: _, h, _ => by cases h.1
  | _ :: _, [], h, _ => by cases h.1
  | y :: xs, d :: l, h, hl => by
    simp only [List.all_cons, Bool.and_eq_true] at hl
    have h0 := h.2 0 y d rfl rfl
    obtain ⟨i1, i2⟩ := inV_at hx hz (xs := xs) (l := l) ⟨by simpa using h.1, fun i v d a b => h.2 (i + 1) v d (by simpa using a) (by simpa using b)⟩ hl.2
    refine ⟨by simp [h0.flat hl.1, i1], ?_⟩
    show (eqV y x || inV x xs) = (Pf.eqF d z || anyF z l)
    rw [h0.eqF hx hl.1 hz, i2]
theorem os_in : OpS cl K inD (k2 (rIn K false)) := fun M H vs ds z Q sm hb e q => by
  unfold inD at e
  split at e
  · split at e
    · rename_i l hl
      split at e
      · rename_i hf
        cases e
        simp only [Bool.and_eq_true] at hf
        obtain ⟨v, w, rfl, h1, h2⟩ := hb.two
        obtain ⟨a, xs, rfl, a1, a2⟩ := h2.seq sm hl
        obtain ⟨i1, i2⟩ := inV_at (h1.flatAt hf.1) hf.1 a2 hf.2
        exact ⟨a, xs, rfl, a1, (h1.flatAt hf.1).flat hf.1, i1, by simp only [i2]; exact q _ _ (.old (.bl _))⟩
      · cases e
    · cases e
  · cases e
theorem os_notIn : OpS cl K notInD (k2 (rIn K true)) := fun M H vs ds z Q sm hb e q => by
  unfold notInD at e
  split at e
  · split at e
    · rename_i l hl
      split at e
      · rename_i hf
        cases e
        simp only [Bool.and_eq_true] at hf
        obtain ⟨v, w, rfl, h1, h2⟩ := hb.two
        obtain ⟨a, xs, rfl, a1, a2⟩ := h2.seq sm hl
        obtain ⟨i1, i2⟩ := inV_at (h1.flatAt hf.1) hf.1 a2 hf.2
        exact ⟨a, xs, rfl, a1, (h1.flatAt hf.1).flat hf.1, i1, by simp only [i2]; exact q _ _ (.old (.bl _))⟩
      · cases e
    · cases e
  · cases e
/-! a thing held is handed on: its name holds it no more -/
def eMove (i : Nat) : EM Dt := fun ρ => match gv ρ i with | some d => .ok d (ρ.set i none) | none => .stuck
theorem se2_move {i : Nat} (hs : okSet ss i .fz ss' = true := by rfl) : SE2 cl K c ss ss' (sh ss i) (tVar i) (eMove i) := fun B Ai ρ σ H Q R p => by
  unfold eMove at p
  cases e0 : gv ρ i with
  | none => rw [e0] at p; exact p.elim
  | some d =>
    rw [e0] at p
    obtain ⟨v, h1, h2⟩ := R.get (gv_some e0)
    obtain ⟨w1, w2⟩ := okSet_at hs
    have hi : i < ρ.length := (List.getElem?_eq_some_iff.mp (gv_some e0)).1
    have hil : i ≠ σ.length := fun z => by rw [z, List.getElem?_eq_none (Nat.le_refl _)] at h1; cases h1
    obtain ⟨Aj, eAj⟩ : ∃ Aj : Nat → Addr → Prop, Aj = fun j a => (j = σ.length ∧ Ai i a) ∨ (j ≠ σ.length ∧ j ≠ i ∧ Ai j a) := ⟨_, rfl⟩
    have sub : ∀ {j a}, Aj j a → (j = σ.length ∧ Ai i a) ∨ (j ≠ σ.length ∧ j ≠ i ∧ Ai j a) := fun z => by rw [eAj] at z; exact z
    have x : Ext c.q B Ai H Aj H := ⟨fun _ _ => rfl, fun a o _ na e => ⟨fun j z => (sub z).elim (fun z => na _ z.2) fun z => na j z.2.2, e⟩, fun _ => Same.refl _⟩
    have an : Aj σ.length = Ai i := by
      funext a
      exact propext ⟨fun z => (sub z).elim (fun z => z.2) fun z => absurd rfl z.1, fun z => by rw [eAj]; exact .inl ⟨rfl, z⟩⟩
    refine ⟨v, h1, p v Aj H x ⟨by simpa using R.len, fun j z e => ?_, fun j k a y1 y2 => ?_, fun j a y => (sub y).elim (fun z => R.nb _ a z.2) fun z => R.nb _ a z.2.2, fun j a y => (sub y).elim (fun z => R.al _ a z.2) fun z => R.al _ a z.2.2, R.hb, c.F.mono _ _ x.same R.fx, R.pin⟩ (by rw [an]; exact h2.mono x.same fun _ _ => rfl)⟩
    · by_cases hj : j = i
      · subst hj; rw [List.getElem?_set_self hi] at e; cases e
      · rw [List.getElem?_set_ne (Ne.symm hj)] at e
        obtain ⟨u, u1, u2⟩ := R.row j z e
        have hjl : j ≠ σ.length := fun z => by rw [z, List.getElem?_eq_none (Nat.le_refl _)] at u1; cases u1
        refine ⟨u, u1, ?_⟩
        rw [w2 j hj, show Aj j = Ai j by funext a; rw [eAj]; simp [hj, hjl]]
        exact u2.mono x.same fun _ _ => rfl
    · rcases sub y1 with ⟨a1, b1⟩ | ⟨a1, c1, b1⟩
      · rcases sub y2 with ⟨a2, b2⟩ | ⟨a2, c2, b2⟩
        · rw [a1, a2]
        · exact absurd (R.dj _ _ a b2 b1) c2
      · rcases sub y2 with ⟨a2, b2⟩ | ⟨a2, c2, b2⟩
        · exact absurd (R.dj _ _ a b1 b2) c1
        · exact R.dj _ _ a b1 b2
theorem ss_ret2 {ss1 : Ss} (h : SE2 cl K c ss ss1 c.rs te e) (l : leS c.sr ss1 = true := by rfl) : SS cl K c ss ss' (tRet te) (sRet e) := fun B Ai ρ σ H D R p => by
  unfold sRet at p
  refine h B Ai ρ σ H _ R ?_
  cases er : e ρ with
  | ok d ρ1 =>
    rw [er] at p
    intro v Ai1 H1 x1 R1 o1
    obtain ⟨Ai2, x2, R2, ea⟩ := R1.less (q := c.q) l
    exact p v σ Ai2 H1 (x1.trans x2) R2 (fun _ _ => rfl) (by rw [ea]; exact o1.mono x2.same fun _ _ => rfl)
  | ex x ρ1 => rw [er] at p; exact p
  | stuck => rw [er] at p; exact p
theorem ss_retN (l : leS c.sr ss = true := by rfl) (hr : c.rs = .fz := by rfl) : SS cl K c ss ss' tRetN (sRet (eC .non)) := fun B Ai ρ σ H D R p => by
  obtain ⟨R1, x1⟩ := R.temp (q := c.q)
  obtain ⟨Ai2, x2, R2, ea⟩ := R1.less (q := c.q) l
  exact p .non σ Ai2 H (x1.trans x2) R2 (fun _ _ => rfl) (by rw [hr]; exact .fz .non fun a => by rw [ea, setA_same]; exact fun z => z)
end
/-! ### walks of any sequence -/
def iSeqV (K : PySem.W.Frag) (te : TE) : TI := fun σ H R => te σ H fun x H1 => (∃ a, x = .ref a ∧ (∃ xs, SqL K H1 a xs) ∧ R (Itl K a) H1) ∨ (∃ a, x = .ref a ∧ (∃ xs, SqT K H1 a xs) ∧ R (Itt K a) H1) ∨ (∃ y, x = .str y ∧ R (Its y) H1)
theorem pi_seqD {X : Cx} (K : PySem.W.Frag) {tg l : Expr} {tl : TE} (hl : PE X l tl) (eK : X.K = K := by rfl) : PI X tg l (iSeqV K tl) := by
  subst eK
  refine ⟨fun pins s σ H R I h => ?_⟩
  refine thn (hl.run pins s σ H _ I h) fun v s1 ⟨x, H1, I1, r1, q1⟩ => ?_
  rcases q1 with ⟨a, e, ⟨xs, hq⟩, q⟩ | ⟨a, e, ⟨xs, hq⟩, q⟩ | ⟨x, ex, q⟩
  · subst e
    cases r1
    obtain ⟨its, rv, p, hz⟩ := I1.list hq
    refine wpAny_pyIter_list p.isList ?_
    refine ⟨s1.heap.objs.size, [s1.heap.objs.size], _, _, H1, rfl, I1.kept (t' := s1.toks) fun b o e => Heap.get?_push_of_some _ e, turn_list a _, ⟨_, Heap.get?_push_size _ rfl, rfl, rfl⟩, fun b hb => ?_, q⟩
    have e : b = s1.heap.objs.size := by simpa using hb
    subst e
    exact I1.fpOk (Nat.le_refl _) (I1.hok.fresh (Nat.le_refl _))
  · subst e
    cases r1
    obtain ⟨its, rv, p, hz⟩ := I1.tuple hq
    refine wpAny_pyIter_tuple (show s1.heap.IsTuple a its.toArray from p) ?_
    refine ⟨s1.heap.objs.size, [s1.heap.objs.size], _, _, H1, rfl, I1.kept (t' := s1.toks) fun b o e => Heap.get?_push_of_some _ e, turn_tuple a _, ⟨_, Heap.get?_push_size _ rfl, rfl, rfl⟩, fun b hb => ?_, q⟩
    have e : b = s1.heap.objs.size := by simpa using hb
    subst e
    exact I1.fpOk (Nat.le_refl _) (I1.hok.fresh (Nat.le_refl _))
  · subst ex
    obtain ⟨t, rfl⟩ := r1
    cases ha : x.cps.all (· < 128)
    · exact wpAny_pyIter_wide ha (pi_one (tk := s1.toks) I1 _ (turn_str _ x t "str_iterator" (.inr rfl)) ⟨_, Heap.get?_push_size _ rfl, rfl, rfl⟩ q)
    · exact wpAny_pyIter_ascii ha (pi_one (tk := s1.toks) I1 _ (turn_str _ x t "str_ascii_iterator" (.inl rfl)) ⟨_, Heap.get?_push_size _ rfl, rfl, rfl⟩ q)
def signs (x : Str) : List Dt := x.cps.toList.map fun c => .str ⟨#[c]⟩
def seqJ : Dt → Option (List Dt)
  | .lst l => some l
  | .rol l => some l
  | .tup l => some l
  | .str x => some (signs x)
  | _ => none
def iSeqD (e : EM Dt) : EM (List Dt) := fun ρ => (e ρ).bind fun d ρ1 => match seqJ d with | some l => .ok l ρ1 | none => .stuck
def enumL : Nat → List Dt → List Dt
  | _, [] => []
  | i, d :: r => .tup [.int i, d] :: enumL (i + 1) r
def enumD : List Dt → Option (List Dt) | [d] => (lstI d).map (enumL 0) | _ => none
def zipL : List Dt → List Dt → List Dt
  | a :: r, b :: q => .tup [a, b] :: zipL r q
  | _, _ => []
def zipD : List Dt → Option (List Dt) | [a, b] => (match lstI a, lstI b with | some l, some m => some (zipL l m) | _, _ => none) | _ => none
section
variable {cl : Str → Option Addr} {K : PySem.W.Frag} {c : Fx} {B : Addr → Prop} {Ai : Nat → Addr → Prop} {ss ss' : Ss} {ρ ρ' : Env} {σ : L2.St} {M H : Hp} {v : V} {d : Dt} {s : Sh} {xs ys : List V} {l m : List Dt}
  {t ta tb te tc : TE} {e e' a b : EM Dt} {as : List AE} {tA : TA} {p q : Addr}
theorem it_list (h1 : SqL K M p xs) (h : AtsL cl K M xs l) : ItOk cl K M (Itl K p) l := fun M2 H2 s1 s2 => ⟨fun i hi => ⟨xs, s2.seq (s1.seq h1), by rw [h.1]; exact hi⟩, fun i d ed => by
  obtain ⟨v, hv, _⟩ := h.at ed
  refine ⟨⟨xs, v, s2.seq (s1.seq h1), hv⟩, fun x H3 hy => ?_⟩
  obtain ⟨rfl, hy⟩ := hy
  exact .old ((h.2 i x d (hy xs (s2.seq (s1.seq h1))) ed).mono s1)⟩
theorem it_tup (h1 : SqT K M p xs) (h : AtsL cl K M xs l) : ItOk cl K M (Itt K p) l := fun M2 H2 s1 s2 => ⟨fun i hi => ⟨xs, sqt_same s2 (sqt_same s1 h1), by rw [h.1]; exact hi⟩, fun i d ed => by
  obtain ⟨v, hv, _⟩ := h.at ed
  refine ⟨⟨xs, v, sqt_same s2 (sqt_same s1 h1), hv⟩, fun x H3 hy => ?_⟩
  obtain ⟨rfl, hy⟩ := hy
  exact .old ((h.2 i x d (hy xs (sqt_same s2 (sqt_same s1 h1))) ed).mono s1)⟩
theorem it_str {x : Str} : ItOk cl K M (Its x) (signs x) := fun M2 H2 s1 s2 => ⟨fun i hi => by unfold signs at hi; show x.cps.size ≤ i; simpa using hi, fun i d ed => by
  unfold signs at ed
  rw [List.getElem?_map] at ed
  cases ec : x.cps.toList[i]? with
  | none => rw [ec] at ed; cases ed
  | some ch =>
    rw [ec] at ed
    cases ed
    have hi : i < x.cps.size := by simpa using (List.getElem?_eq_some_iff.mp ec).1
    refine ⟨hi, fun v H3 hy => ?_⟩
    obtain ⟨rfl, c', hc, rfl⟩ := hy
    rw [Array.getElem?_toList, hc] at ec
    cases ec
    exact .old (.str _)⟩
theorem si_seq (h : SE cl K c ss .fz te e) : SI cl K c ss (iSeqV K te) (iSeqD e) := fun B Ai ρ σ H Q R p => by
  unfold iSeqD at p
  refine h.use R (fun d ρ1 e1 v Ai1 H1 x1 R1 o1 => ?_) (fun x ρ1 e1 => by rw [e1] at p; exact p) fun e1 => by rw [e1] at p; exact p
  simp only [e1, Er.bind] at p
  have bo : Bor cl K (MH B Ai1 H1) (MH B Ai1 H1) v d := .at o1.fzAt.1
  cases d with
  | lst l => obtain ⟨a, xs, rfl, a1, a2⟩ := bo.lstA (Same.refl _); exact .inl ⟨a, rfl, ⟨xs, mask_same.seq (SqL.of a1)⟩, p _ Ai1 H1 x1 R1 (it_list (SqL.of a1) a2)⟩
  | rol l => obtain ⟨a, xs, rfl, a1, a2⟩ := bo.lstsA (Same.refl _) rfl; exact .inl ⟨a, rfl, ⟨xs, mask_same.seq a1⟩, p _ Ai1 H1 x1 R1 (it_list a1 a2)⟩
  | tup l => obtain ⟨a, xs, rfl, a1, a2⟩ := bo.tupA (Same.refl _); exact .inr (.inl ⟨a, rfl, ⟨xs, sqt_same mask_same a1⟩, p _ Ai1 H1 x1 R1 (it_tup a1 a2)⟩)
  | str x => obtain rfl := bo.str; exact .inr (.inr ⟨x, rfl, p _ Ai1 H1 x1 R1 it_str⟩)
  | _ => exact p.elim
theorem enumL_len : ∀ {i : Nat} {l : List Dt}, (enumL i l).length = l.length
  | _, [] => rfl
  | i, d :: r => by simp [enumL, enumL_len]
theorem enumL_at : ∀ {k i : Nat} {l : List Dt} {z : Dt}, (enumL k l)[i]? = some z → ∃ d, l[i]? = some d ∧ z = .tup [.int ((k + i : Nat) : Int), d]
  | _, _, [], _, h => by simp [enumL] at h
  | k, 0, d :: r, z, h => by simp [enumL] at h; exact ⟨d, rfl, by rw [← h]; simp⟩
  | k, i + 1, d :: r, z, h => by
    obtain ⟨d', h1, h2⟩ := enumL_at (k := k + 1) (i := i) (l := r) (by simpa [enumL] using h)
    exact ⟨d', by simpa using h1, by rw [h2, show k + 1 + i = k + (i + 1) by omega]⟩
theorem si_enum (ha : SA cl K c ss tA as) (hv : valAs as = true := by rfl) : SI cl K c ss (iEnum K tA) (iOpA enumD as) := fun B Ai ρ σ H Q R p => by
  unfold iOpA at p
  refine ha.use R (fun ds ρ1 e1 vs Ai1 H1 x1 R1 ok => ?_) (fun x ρ1 e1 => by rw [e1] at p; exact p) fun e1 => by rw [e1] at p; exact p
  simp only [e1, Er.bind] at p
  cases e2 : enumD ds with
  | none => rw [e2] at p; exact p.elim
  | some z =>
    rw [e2] at p
    unfold enumD at e2
    split at e2
    · rename_i d
      simp only [Option.map_eq_some_iff] at e2
      obtain ⟨l, hl, rfl⟩ := e2
      obtain ⟨a1, a2⟩ := ok.ats hv
      match vs, a1 with
      | [v], _ =>
        obtain ⟨a, xs, rfl, b1, b2⟩ := (Bor.at (a2 0 v d rfl rfl) (H := MH B Ai1 H1)).lstsA (Same.refl _) hl
        refine ⟨a, xs, rfl, mask_same.seq b1, p _ Ai1 H1 x1 R1 fun M2 H2 s1 s2 => ⟨fun i hi => ⟨xs, s2.seq (s1.seq b1), by rw [enumL_len] at hi; rw [b2.1]; exact hi⟩, fun i d ed => ?_⟩⟩
        obtain ⟨z, hz, rfl⟩ := enumL_at ed
        obtain ⟨v, hv', _⟩ := b2.at hz
        refine ⟨⟨xs, v, s2.seq (s1.seq b1), hv'⟩, fun x H3 hy => ?_⟩
        obtain ⟨T, y, rfl, nT, rfl, hy⟩ := hy
        have hy := hy xs (s2.seq (s1.seq b1))
        refine .new nT (.tupA ⟨rfl, fun j v d h1 h2 => ?_⟩)
        match j with
        | 0 => cases h1; cases h2; rw [Nat.zero_add]; exact .int _
        | 1 => cases h1; cases h2; exact (b2.2 i _ _ hy hz).mono s1
        | j + 2 => simp at h1
    · cases e2
theorem zipL_at : ∀ {l m : List Dt} {i : Nat} {z : Dt}, (zipL l m)[i]? = some z → ∃ a b, l[i]? = some a ∧ m[i]? = some b ∧ z = .tup [a, b]
  | a :: l, b :: m, 0, z, h => by simp [zipL] at h; exact ⟨a, b, rfl, rfl, h.symm⟩
  | a :: l, b :: m, i + 1, z, h => by
    obtain ⟨x, y, h1, h2, h3⟩ := zipL_at (l := l) (m := m) (i := i) (by simpa [zipL] using h)
    exact ⟨x, y, by simpa using h1, by simpa using h2, h3⟩
  | [], _, i, z, h => by simp [zipL] at h
  | _ :: _, [], i, z, h => by simp [zipL] at h
theorem zipL_len : ∀ {l m : List Dt}, (zipL l m).length = min l.length m.length
  | a :: l, b :: m => by simp [zipL, zipL_len]
  | [], _ => by simp [zipL]
  | _ :: _, [] => by simp [zipL]
theorem si_zip (ha : SA cl K c ss tA as) (hv : valAs as = true := by rfl) : SI cl K c ss (iZip K tA) (iOpA zipD as) := fun B Ai ρ σ H Q R p => by
  unfold iOpA at p
  refine ha.use R (fun ds ρ1 e1 vs Ai1 H1 x1 R1 ok => ?_) (fun x ρ1 e1 => by rw [e1] at p; exact p) fun e1 => by rw [e1] at p; exact p
  simp only [e1, Er.bind] at p
  cases e2 : zipD ds with
  | none => rw [e2] at p; exact p.elim
  | some z =>
    rw [e2] at p
    unfold zipD at e2
    split at e2
    · rename_i d1 d2
      split at e2
      · rename_i l m hl hm
        cases e2
        obtain ⟨a1, a2⟩ := ok.ats hv
        match vs, a1 with
        | [v, w], _ =>
          obtain ⟨a, xs, rfl, b1, b2⟩ := (Bor.at (a2 0 v d1 rfl rfl) (H := MH B Ai1 H1)).lstsA (Same.refl _) hl
          obtain ⟨b, ys, rfl, g1, g2⟩ := (Bor.at (a2 1 w d2 rfl rfl) (H := MH B Ai1 H1)).lstsA (Same.refl _) hm
          refine ⟨a, b, xs, ys, rfl, mask_same.seq b1, mask_same.seq g1, p _ Ai1 H1 x1 R1 fun M2 H2 s1 s2 => ⟨fun i hi => ⟨xs, ys, s2.seq (s1.seq b1), s2.seq (s1.seq g1), by rw [zipL_len] at hi; rw [b2.1, g2.1]; omega⟩, fun i d ed => ?_⟩⟩
          obtain ⟨z1, z2, h1, h2, rfl⟩ := zipL_at ed
          obtain ⟨v1, hv1, _⟩ := b2.at h1
          obtain ⟨v2, hv2, _⟩ := g2.at h2
          refine ⟨⟨xs, ys, v1, v2, s2.seq (s1.seq b1), s2.seq (s1.seq g1), hv1, hv2⟩, fun x H3 hy => ?_⟩
          obtain ⟨T, y1, y2, rfl, nT, rfl, hy1, hy2⟩ := hy
          have q1 := hy1 xs (s2.seq (s1.seq b1))
          have q2 := hy2 ys (s2.seq (s1.seq g1))
          refine .new nT (.tupA ⟨rfl, fun j v d k1 k2 => ?_⟩)
          match j with
          | 0 => cases k1; cases k2; exact (b2.2 i _ _ q1 h1).mono s1
          | 1 => cases k1; cases k2; exact (g2.2 i _ _ q2 h2).mono s1
          | j + 2 => simp at k1
      · cases e2
    · cases e2
/-- x op= e -/
def sAug (i : Nat) (f : List Dt → Option Dt) (e : EM Dt) : SM := fun ρ => match gv ρ i with
  | some x => (e ρ).go fun y ρ1 => (match f [x, y] with | some z => .nx (ρ1.set i (some z)) | none => .stuck)
  | none => .stuck
theorem ss_aug {i : Nat} {f : List Dt → Option Dt} {r : TIp} (hf : OpS cl K f (fun vs H Q => match vs with | [x, y] => r x y H Q | _ => False)) (h : SE cl K c ss .fz te e) (hs0 : sh ss i = .fz := by rfl) (hs : okSet ss i .fz ss' = true := by rfl) (hk : c.kp i = false := by rfl) (hp : (c.F.pins.map (·.1)).contains i = false := by rfl) :
    SS cl K c ss ss' (tAug i te r) (sAug i f e) := fun B Ai ρ σ H D R p => by
  unfold sAug at p
  cases e0 : gv ρ i with
  | none => rw [e0] at p; exact p.elim
  | some x =>
    rw [e0] at p
    obtain ⟨v, h1, h2⟩ := R.getFz (gv_some e0) hs0
    refine ⟨v, h1, h.use R (fun y ρ1 e1 w Ai1 H1 x1 R1 o1 => ?_) (fun x ρ1 e1 => by simp only [e1, Er.go] at p; exact p) fun e1 => by simp only [e1, Er.go] at p; exact p⟩
    simp only [e1, Er.go] at p
    cases ez : f [x, y] with
    | none => rw [ez] at p; exact p.elim
    | some z =>
      rw [ez] at p
      refine hf _ H1 [v, w] [x, y] z _ mask_same (.cons (.at (h2.mono x1.same)) (.cons (.at o1.fzAt.1) .nil)) ez fun u H2 hu => ?_
      obtain ⟨Ai2, x2, R2, o2⟩ := R1.res hu
      obtain ⟨Ai3, x3, R3⟩ := R2.put o2 hs (pins_ne hp)
      exact p _ Ai3 H2 ((x1.trans x2).trans x3) R3 (set_ne hk)
end
section
variable {cl : Str → Option Addr} {K : PySem.W.Frag} {M H : Hp} {a : Addr} {ns : List Int} {g : Sg}
theorem ats_ints : ∀ ns : List Int, AtsL cl K M (ns.map .int) (ns.map .int) := fun ns => ⟨by simp, fun i v d e1 e2 => by
  rw [List.getElem?_map] at e1 e2
  cases h : ns[i]? with
  | none => rw [h] at e1; cases e1
  | some n => rw [h] at e1 e2; cases e1; cases e2; exact .int n⟩
theorem at_tupI (h : SqT K M a (ns.map V.int)) : At cl K M (.ref a) (.tup (ns.map .int)) := .tup h (ats_ints (cl := cl) (K := K) (M := M) ns).1 (ats_ints ns).2
theorem at_rolI (h : SqL K M a (ns.map V.int)) : At cl K M (.ref a) (.rol (ns.map .int)) := .rol h (ats_ints (cl := cl) (K := K) (M := M) ns).1 (ats_ints ns).2
theorem no_sp {vs : List V} {Q : VK} {E : XK} (h : spD cl K g (fun _ => .stuck) vs H Q E) : False := by
  obtain ⟨B, Ai, ds, R, hl, h⟩ := h
  exact h
/-- the law, asked of the script -/
def sp_law (K : PySem.W.Frag) : Sp := fun vs H Q _ => ∃ (a : Addr) (ns : List Int), vs = [.ref a] ∧ SqL K H a (ns.map V.int) ∧ ns.length ≤ 63 ∧ ∀ H', Q (.bl true) H'
theorem law_sp {f : List Dt → Fq} (hg : g.ps = []) (hf : ∀ ns : List Int, ns.length ≤ 63 → ∃ outs, f [.rol (ns.map .int)] = .ok (.bl true) outs) (hr : g.rs = .fz) : ∀ vs H Q E, sp_law K vs H Q E → spD cl K g f vs H Q E := fun vs H Q E ⟨a, ns, e, h, hz, q⟩ => by
  subst e
  obtain ⟨outs, ho⟩ := hf ns hz
  refine ⟨fun _ => False, fun _ _ => False, [.rol (ns.map .int)], ⟨rfl, fun i d e => ?_, fun i j a z => z.elim, fun i a z => z.elim, fun i a z => z.elim, fun a z => z.elim, True.intro, fun _ h => nomatch h⟩, rfl, ?_⟩
  · cases i with
    | zero =>
      cases e
      refine ⟨_, rfl, ?_⟩
      rw [hg]
      refine .fz (at_rolI ?_) fun _ z => z
      have hm : MH (fun _ => False) (fun _ _ => False) H = H := by
        funext b
        unfold MH mask MO
        simp
      rw [hm]
      exact h
    | succ i => simp at e
  · rw [ho]
    intro v Ai' H' _ _ o
    rw [hr] at o
    obtain rfl := Bor.bl (.at o.fzAt.1) (H := H')
    exact q H'
theorem cx_no {P : Program} {w : World} : ∀ (H : Hp) (s : Shared) (e : Value) (s' : Shared), L2.CX P w [] H s (fun _ _ _ => False) e s' → False := fun H s e s' ⟨_, _, _, _, _, _, _, _, _, _, _, _, z⟩ => z
end
def addI : List Dt → Option Dt
  | [.int i, .int j] => some (.int (i + j))
  | _ => none
def subI : List Dt → Option Dt
  | [.int i, .int j] => some (.int (i - j))
  | _ => none
theorem os_addI {cl : Str → Option Addr} {K : PySem.W.Frag} : OpS cl K addI (fun vs H Q => match vs with | [x, y] => ipI (fun i j => i + j) x y H Q | _ => False) := fun M H vs ds z Q sm hb e q => by
  unfold addI at e
  split at e
  · cases e
    obtain ⟨v, w, rfl, h1, h2⟩ := hb.two
    exact ⟨_, _, h1.int, h2.int, q _ _ (.old (.int _))⟩
  · cases e
theorem os_subI {cl : Str → Option Addr} {K : PySem.W.Frag} : OpS cl K subI (fun vs H Q => match vs with | [x, y] => ipI (fun i j => i - j) x y H Q | _ => False) := fun M H vs ds z Q sm hb e q => by
  unfold subI at e
  split at e
  · cases e
    obtain ⟨v, w, rfl, h1, h2⟩ := hb.two
    exact ⟨_, _, h1.int, h2.int, q _ _ (.old (.int _))⟩
  · cases e
/-! ### more: range with a step, least and greatest of a list, slices with a step -/
def rngC (a c : Int) (n : Nat) : List Dt := (List.range n).map fun i => Dt.int (a + (i : Nat) * c)
def rng3D : List Dt → Option (List Dt)
  | [.int a, .int b, .int c] => if c ≠ 0 ∧ c.natAbs < 1073741824 ∧ Builtin.Range.small a b c = true ∧ 0 ≤ Builtin.Range.rangeSize a b c then some (rngC a c (Builtin.Range.rangeSize a b c).toNat) else none
  | _ => none
def maxN (l : List Int) : Option Int := match l with | [] => none | x :: r => some (r.foldl (fun a b => if a < b then b else a) x)
def minN (l : List Int) : Option Int := match l with | [] => none | x :: r => some (r.foldl (fun a b => if b < a then b else a) x)
theorem maxN_sp {l : List Int} {m : Int} (h : maxN l = some m) : m ∈ l ∧ ∀ y ∈ l, y ≤ m := by
  cases l with
  | nil => cases h
  | cons x r =>
    cases h
    have key : ∀ (r : List Int) (x : Int), (r.foldl (fun a b => if a < b then b else a) x ∈ x :: r) ∧ (∀ y ∈ x :: r, y ≤ r.foldl (fun a b => if a < b then b else a) x) := by
      intro r
      induction r with
      | nil => intro x; exact ⟨.head _, fun y hy => by simp at hy; simp only [List.foldl_nil]; omega⟩
      | cons b r ih =>
        intro x
        rw [List.foldl_cons]
        obtain ⟨h1, h2⟩ := ih (if x < b then b else x)
        refine ⟨?_, fun y hy => ?_⟩
        · rcases List.mem_cons.mp h1 with h3 | h3
          · rw [h3]; split
            · exact .tail _ (.head _)
            · exact .head _
          · exact .tail _ (.tail _ h3)
        · have h4 := h2 _ (.head _)
          simp only [List.mem_cons] at hy
          rcases hy with rfl | rfl | hy
          · exact Int.le_trans (by split <;> omega) h4
          · exact Int.le_trans (by split <;> omega) h4
          · exact h2 y (.tail _ hy)
    exact key r x
theorem minN_sp {l : List Int} {m : Int} (h : minN l = some m) : m ∈ l ∧ ∀ y ∈ l, m ≤ y := by
  cases l with
  | nil => cases h
  | cons x r =>
    cases h
    have key : ∀ (r : List Int) (x : Int), (r.foldl (fun a b => if b < a then b else a) x ∈ x :: r) ∧ (∀ y ∈ x :: r, r.foldl (fun a b => if b < a then b else a) x ≤ y) := by
      intro r
      induction r with
      | nil => intro x; exact ⟨.head _, fun y hy => by simp at hy; simp only [List.foldl_nil]; omega⟩
      | cons b r ih =>
        intro x
        rw [List.foldl_cons]
        obtain ⟨h1, h2⟩ := ih (if b < x then b else x)
        refine ⟨?_, fun y hy => ?_⟩
        · rcases List.mem_cons.mp h1 with h3 | h3
          · rw [h3]; split
            · exact .tail _ (.head _)
            · exact .head _
          · exact .tail _ (.tail _ h3)
        · have h4 := h2 _ (.head _)
          simp only [List.mem_cons] at hy
          rcases hy with rfl | rfl | hy
          · exact Int.le_trans h4 (by split <;> omega)
          · exact Int.le_trans h4 (by split <;> omega)
          · exact h2 y (.tail _ hy)
    exact key r x
def maxLD : List Dt → Option Dt
  | [d] => match lstI d with | some l => ((intsD l).bind maxN).map .int | none => none
  | _ => none
def minLD : List Dt → Option Dt
  | [d] => match lstI d with | some l => ((intsD l).bind minN).map .int | none => none
  | _ => none
/-- the items of a slice, with a step -/
def pickL {α : Type} (xs : List α) (lo hi st : Option Int) : List α := (sliceRange (sliceBounds lo hi st xs.length).1 (sliceBounds lo hi st xs.length).2.1 (sliceBounds lo hi st xs.length).2.2).filterMap (xs[·]?)
def rSlP (K : PySem.W.Frag) : V → Option Int → Option Int → Option Int → Hp → VK → Prop := fun x lo hi st H Q => ∃ a xs, x = .ref a ∧ SqL K H a xs ∧ st ≠ some 0 ∧ (pickL xs lo hi st).length ≤ sizeLine ∧ ∀ p, H p = none → Q (.ref p) (upd H p (.lst (pickL xs lo hi st)))
def tSlP (K : PySem.W.Frag) (te : TE) (tl th ts : TO) : TE := fun σ H Q => te σ H fun x H1 => tl σ H1 fun l H2 => th σ H2 fun u H3 => ts σ H3 fun st H4 => rSlP K x l u st H4 Q
theorem vals_at {vs : List V} {us : List Value} (h : Vals vs us) (i : Nat) : (∀ v, vs[i]? = some v → ∃ u, us[i]? = some u ∧ RelV v u) ∧ (vs[i]? = none → us[i]? = none) := by
  induction h generalizing i with
  | nil => exact ⟨fun v e => by simp at e, fun _ => rfl⟩
  | cons r rr ih =>
    cases i with
    | zero => exact ⟨fun v e => by simp at e; subst e; exact ⟨_, rfl, r⟩, fun e => by simp at e⟩
    | succ i => exact ih i
theorem vals_pick {vs : List V} {us : List Value} (h : Vals vs us) : ∀ is : List Nat, Vals (is.filterMap (vs[·]?)) (is.filterMap (us[·]?))
  | [] => .nil
  | i :: is => by
    have ih := vals_pick h is
    obtain ⟨h1, h2⟩ := vals_at h i
    simp only [List.filterMap_cons]
    cases e : vs[i]? with
    | none => rw [h2 e]; exact ih
    | some v => obtain ⟨u, e2, r⟩ := h1 v e; rw [e2]; exact .cons r ih
theorem pe_sliceP {X : Cx} (K : PySem.W.Frag) {e : Expr} {lo hi : Option Expr} {st : Expr} {p2 pos : Pos} {te : TE} {tl th ts : TO} (he : PE X e te) (hl : PO X lo tl) (hu : PO X hi th) (hst : PO X (some st) ts) (eK : X.K = K := by rfl) : PE X (.Subscript e (.Slice lo hi (some st) p2) pos) (tSlP K te tl th ts) := by
  subst eK
  refine ⟨fun pins s σ H Q I h => ?_⟩
  refine Subscript_ (thn (he.run pins s σ H _ I h) fun v s1 ⟨x, H1, I1, r1, q1⟩ => ?_)
  refine wpAny_Slice (thn (hl.run pins s1 σ H1 _ I1 q1) fun vl s2 ⟨l, H2, I2, pl, q2⟩ => thn (hu.run pins s2 σ H2 _ I2 q2) fun vu s3 ⟨u, H3, I3, pu, q3⟩ => thn (hst.run pins s3 σ H3 _ I3 q3) fun vs s4 ⟨w, H4, I4, ps, q4⟩ => ?_)
  obtain ⟨a, xs, rfl, hx, h0, hz2, q⟩ := q4
  cases r1
  have I5 : Inv X pins σ H4 { s4 with heap := s4.heap.push { cls := .type "slice", data := .fields #[vl, vu, vs] } } := I4.kept (t' := s4.toks) fun b ob q => Heap.get?_push_of_some _ q
  obtain ⟨its, r, ht, hz⟩ := I5.list hx
  have hlen := r.length
  show wpAny (model X.prog X.w) X.A (subscriptTail e (.Slice lo hi (some st) p2) _ (.ref s4.heap.objs.size)) (EP X pins σ Q) X.xe { s4 with heap := s4.heap.push { cls := .type "slice", data := .fields #[vl, vu, vs] } }
  refine tail_any (ops := [_, .ref s4.heap.objs.size]) ht.isList.typeIs slot_list_getitem.lookup ?_ (by with_unfolding_all rfl)
  refine wpAny_getItem_list_slice ht.isList (Heap.IsSliceOf.new ..) pl pu ps h0 ?_ (by rw [List.size_toArray] <;> omega)
  have e2 : slicePick its.toArray l u w = (pickL its l u w).toArray := by unfold slicePick pickL; simp
  rw [e2]
  have e3 : Vals (pickL xs l u w) (pickL its l u w) := by unfold pickL; rw [hlen]; exact vals_pick r _
  exact ⟨.ref _, _, I5.laid (t' := s4.toks) (o := .lst (pickL xs l u w)) (fun b ob q => Heap.get?_push_of_some _ q) (Nat.le_refl _) ⟨hz2, _, 0, e3, Heap.get?_push_size _ rfl⟩, rfl, q _ (I5.hok.fresh (Nat.le_refl _))⟩
def sliceP (d : Dt) (lo hi st : Option Int) : Option Dt := match lstI d with
  | some l => if st ≠ some 0 ∧ (pickL l lo hi st).length ≤ 16777216 then some (.lst (pickL l lo hi st)) else none
  | none => none
def eSlP (a : AE) (lo hi st : Option (EM Dt)) : EM Dt := match a with
  | .val e => fun ρ => (e ρ).bind fun d ρ1 => (partI lo ρ1).bind fun i ρ2 => (partI hi ρ2).bind fun j ρ3 => (partI st ρ3).bind fun k ρ4 => match sliceP d i j k with | some z => .ok z ρ4 | none => .stuck
  | .own k => fun ρ => if (gv ρ k).isSome then (partI lo ρ).bind fun i ρ2 => (partI hi ρ2).bind fun j ρ3 => (partI st ρ3).bind fun l ρ4 => (match gv ρ4 k with | some d => (match sliceP d i j l with | some z => .ok z ρ4 | none => .stuck) | none => .stuck) else .stuck
  | .fld _ _ _ => fun _ => .stuck
section
variable {cl : Str → Option Addr} {K : PySem.W.Frag} {c : Fx} {B : Addr → Prop} {Ai : Nat → Addr → Prop} {ss ss' : Ss} {ρ ρ' : Env} {σ : L2.St} {M H : Hp} {v : V} {d : Dt} {s : Sh} {xs : List V} {l : List Dt}
  {t ta tb te tc : TE} {e e' a b : EM Dt} {as : List AE} {tA : TA} {lo hi st : Option (EM Dt)} {tl th ts : TO}
theorem it_rngC {lo k : Int} {n : Nat} : ItOk cl K M (Itc lo k n) (rngC lo k n) := fun M2 H2 _ _ => ⟨fun i hi => by unfold rngC at hi; simp at hi; exact hi, fun i d e => by
  unfold rngC at e
  rw [List.getElem?_map] at e
  simp only [Option.map_eq_some_iff] at e
  obtain ⟨j, e, rfl⟩ := e
  obtain ⟨hi, e⟩ := List.getElem?_eq_some_iff.mp e
  simp only [List.length_range] at hi
  simp only [List.getElem_range] at e
  subst e
  exact ⟨hi, fun x H3 ⟨e1, e2⟩ => by rw [e1, e2]; exact .old (.int _)⟩⟩
theorem Bors.three {x y z : Dt} {vs : List V} (h : Bors cl K M H vs [x, y, z]) : ∃ u v w, vs = [u, v, w] ∧ Bor cl K M H u x ∧ Bor cl K M H v y ∧ Bor cl K M H w z := by
  cases h with
  | cons h1 r => cases r with
    | cons h2 r => cases r with
      | cons h3 r => cases r; exact ⟨_, _, _, rfl, h1, h2, h3⟩
theorem si_rng3 (ha : SA cl K c ss tA as) (hf : flatAs ss as = true := by rfl) : SI cl K c ss (iRng3 tA) (iOpA rng3D as) := fun B Ai ρ σ H Q R p => by
  unfold iOpA at p
  refine ha.use R (fun ds ρ1 e1 vs Ai1 H1 x1 R1 ok => ?_) (fun x ρ1 e1 => by rw [e1] at p; exact p) fun e1 => by rw [e1] at p; exact p
  simp only [e1, Er.bind] at p
  cases e2 : rng3D ds with
  | none => rw [e2] at p; exact p.elim
  | some l =>
    rw [e2] at p
    unfold rng3D at e2
    split at e2
    · rename_i i j k
      split at e2
      · rename_i hn
        cases e2
        obtain ⟨u, v, w, rfl, h, h', h''⟩ := (ok.bors R1 hf).three
        exact ⟨i, j, k, (Builtin.Range.rangeSize i j k).toNat, by rw [h.int, h'.int, h''.int], ⟨hn.1, hn.2.1, hn.2.2.1, by omega⟩, p _ Ai1 H1 x1 R1 it_rngC⟩
      · cases e2
    · cases e2
theorem os_maxL : OpS cl K maxLD (rMax K) := fun M H vs ds z Q sm hb e q => by
  unfold maxLD at e
  split at e
  · split at e
    · rename_i l hl
      simp only [Option.map_eq_some_iff, Option.bind_eq_some_iff] at e
      obtain ⟨m, ⟨ns, hn, hm⟩, rfl⟩ := e
      obtain ⟨v, rfl, h⟩ := hb.one
      obtain ⟨a, xs, rfl, a1, a2⟩ := h.lstsA sm hl
      rw [intsD_at hn] at a2
      rw [a2.ints] at a1
      obtain ⟨h1, h2⟩ := maxN_sp hm
      refine ⟨a, ns, rfl, a1, List.length_pos_of_mem h1, fun m' h3 h4 => ?_⟩
      rw [show m' = m by have := h4 m h1; have := h2 m' h3; omega]
      exact q _ _ (.old (.int _))
    · cases e
  · cases e
theorem os_minL : OpS cl K minLD (rMin K) := fun M H vs ds z Q sm hb e q => by
  unfold minLD at e
  split at e
  · split at e
    · rename_i l hl
      simp only [Option.map_eq_some_iff, Option.bind_eq_some_iff] at e
      obtain ⟨m, ⟨ns, hn, hm⟩, rfl⟩ := e
      obtain ⟨v, rfl, h⟩ := hb.one
      obtain ⟨a, xs, rfl, a1, a2⟩ := h.lstsA sm hl
      rw [intsD_at hn] at a2
      rw [a2.ints] at a1
      obtain ⟨h1, h2⟩ := minN_sp hm
      refine ⟨a, ns, rfl, a1, List.length_pos_of_mem h1, fun m' h3 h4 => ?_⟩
      rw [show m' = m by have := h4 m h1; have := h2 m' h3; omega]
      exact q _ _ (.old (.int _))
    · cases e
  · cases e
theorem AtsL.pick (h : AtsL cl K M xs l) : ∀ is : List Nat, AtsL cl K M (is.filterMap (xs[·]?)) (is.filterMap (l[·]?))
  | [] => ⟨rfl, fun i v d e => by simp at e⟩
  | i :: is => by
    have ih := AtsL.pick h is
    simp only [List.filterMap_cons]
    cases e : l[i]? with
    | none =>
      rw [show xs[i]? = none by rw [List.getElem?_eq_none_iff] at e ⊢; rw [h.1]; exact e]
      exact ih
    | some d =>
      obtain ⟨v, e2, hv⟩ := h.at e
      rw [e2]
      exact AtsL.app (AtsL.one hv) ih
theorem slP_res {z : Dt} {i j k : Option Int} {Q : VK} {d0 : Dt} (sm : Same M H) (hb : Bor cl K M H v d0) (e : sliceP d0 i j k = some z) (q : ∀ w H', (Res cl K M H w H' z ∧ ((.ls .fz : Sh) ≠ .fz → ∃ p o, w = .ref p ∧ H p = none ∧ hoSh o = (.ls .fz) ∧ H' = upd H p o ∧ NewO cl K M p o z)) → Q w H') : rSlP K v i j k H Q := by
  unfold sliceP at e
  split at e
  · rename_i l hl
    split at e
    · rename_i hk
      cases e
      obtain ⟨a, xs, rfl, a1, a2⟩ := hb.lstsA sm hl
      have e2 : AtsL cl K M (pickL xs i j k) (pickL l i j k) := by unfold pickL; rw [a2.1]; exact a2.pick _
      exact ⟨a, xs, rfl, a1, hk.1, by rw [e2.1]; exact line_of hk.2, fun p n => q _ _ ⟨.new n (.lstA e2), fun _ => ⟨p, _, rfl, n, rfl, rfl, .lstA e2⟩⟩⟩
    · cases e
  · cases e
theorem se_slP (h : SE cl K c ss .fz te e) (h1 : SO cl K c ss tl lo) (h2 : SO cl K c ss th hi) (h3 : SO cl K c ss ts st) : SE cl K c ss (.ls .fz) (tSlP K te tl th ts) (eSlP (.val e) lo hi st) := fun B Ai ρ σ H Q R p => by
  unfold eSlP at p
  refine h.use R (fun d ρ1 e1 v Ai1 H1 x1 R1 o1 => ?_) (fun x ρ1 e1 => by simp only [e1, Er.bind] at p; exact p) fun e1 => by simp only [e1, Er.bind] at p; exact p
  simp only [e1, Er.bind] at p
  refine h1.use R1 (fun i ρ2 e2 Ai2 H2 x2 R2 => ?_) (fun x ρ1 e2 => by simp only [e2] at p; exact XPost.ext x1 p) fun e2 => by simp only [e2] at p; exact p
  simp only [e2] at p
  refine h2.use R2 (fun j ρ3 e3 Ai3 H3 x3 R3 => ?_) (fun x ρ1 e3 => by simp only [e3] at p; exact XPost.ext (x1.trans x2) p) fun e3 => by simp only [e3] at p; exact p
  simp only [e3] at p
  refine h3.use R3 (fun k ρ4 e4 Ai4 H4 x4 R4 => ?_) (fun x ρ1 e4 => by simp only [e4] at p; exact XPost.ext ((x1.trans x2).trans x3) p) fun e4 => by simp only [e4] at p; exact p
  simp only [e4] at p
  cases e5 : sliceP d i j k with
  | none => rw [e5] at p; exact p.elim
  | some z =>
    rw [e5] at p
    refine slP_res (M := MH B Ai4 H4) mask_same (.at (o1.fzAt.1.mono (((x2.trans x3).trans x4).same))) e5 fun w H5 hw => ?_
    obtain ⟨Ai5, x5, R5, o5⟩ := sl_fin R4 hw
    exact p w Ai5 H5 ((((x1.trans x2).trans x3).trans x4).trans x5) R5 o5
theorem se_slPO {k : Nat} (h1 : SO cl K c ss tl lo) (h2 : SO cl K c ss th hi) (h3 : SO cl K c ss ts st) (hf : flatSh (sh ss k) = true := by rfl) : SE cl K c ss (.ls .fz) (tSlP K (tVar k) tl th ts) (eSlP (.own k) lo hi st) := fun B Ai ρ σ H Q R p => by
  unfold eSlP at p
  cases e0 : gv ρ k with
  | none => simp [e0] at p; exact p.elim
  | some d0 =>
    simp only [e0, Option.isSome_some, if_true] at p
    obtain ⟨v, hv, _⟩ := R.get (gv_some e0)
    refine ⟨v, hv, h1.use R (fun i ρ2 e2 Ai2 H2 x2 R2 => ?_) (fun x ρ1 e2 => by simp only [e2, Er.bind] at p; exact p) fun e2 => by simp only [e2, Er.bind] at p; exact p⟩
    simp only [e2, Er.bind] at p
    refine h2.use R2 (fun j ρ3 e3 Ai3 H3 x3 R3 => ?_) (fun x ρ1 e3 => by simp only [e3] at p; exact XPost.ext x2 p) fun e3 => by simp only [e3] at p; exact p
    simp only [e3] at p
    refine h3.use R3 (fun m ρ4 e4 Ai4 H4 x4 R4 => ?_) (fun x ρ1 e4 => by simp only [e4] at p; exact XPost.ext (x2.trans x3) p) fun e4 => by simp only [e4] at p; exact p
    simp only [e4] at p
    cases e6 : gv ρ4 k with
    | none => rw [e6] at p; exact p.elim
    | some d =>
      rw [e6] at p
      simp only at p
      cases e5 : sliceP d i j m with
      | none => rw [e5] at p; exact p.elim
      | some z =>
        rw [e5] at p
        obtain ⟨v', g1, g2⟩ := R4.get (gv_some e6)
        rw [hv] at g1
        cases g1
        refine slP_res (M := MH B Ai4 H4) mask_same (g2.bor hf) e5 fun w H5 hw => ?_
        obtain ⟨Ai5, x5, R5, o5⟩ := sl_fin R4 hw
        exact p w Ai5 H5 (((x2.trans x3).trans x4).trans x5) R5 o5
end
/-! ### own ==, != and isinstance of own classes -/
section
variable {X : Cx} {CX : CXT} {C f : Addr} {fd : FuncData} {ps : List Str} {sp : Sp} {k : Nat}
/-- x == y, both instances of the class at C, whose own == keeps sp and lets nothing out -/
def ng : Bool → Bool → Bool
  | true, r => !r
  | false, r => r
def rEqO (C : Addr) (sp : Sp) : R2 := fun x y H Q => ∃ a b dx dy fs gs, x = .ref a ∧ y = .ref b ∧ H a = some (.ins C dx fs) ∧ H b = some (.ins C dy gs) ∧ sp [x, y] H (fun z H' => ∃ r, z = .bl r ∧ Q (.bl r) H') (fun _ _ _ => False)
def rNeO (C : Addr) (sp : Sp) : R2 := fun x y H Q => ∃ a b dx dy fs gs, x = .ref a ∧ y = .ref b ∧ H a = some (.ins C dx fs) ∧ H b = some (.ins C dy gs) ∧ sp [x, y] H (fun z H' => ∃ r, z = .bl r ∧ Q (.bl (!r)) H') (fun _ _ _ => False)
theorem eqO_run {A : Around} {pins : List (Addr × Obj)} {s : Shared} {σ : L2.St} {H : Hp} {a b : Addr} {Q : VK} (F : FnOk X.prog X.w X.K X.mg X.base CX k f fd ps sp) (hr : Room k A) (hA : A.frames = X.A.frames) (hb : Binds X.K fd ps []) (hx : PassesAt CX X σ (fun _ _ _ => False))
    (I : Inv X pins σ H s) (q : sp [.ref a, .ref b] H Q (fun _ _ _ => False)) : wpAny (model X.prog X.w) A (call (.ref f) [.ref a, .ref b]) (EP X pins σ Q) X.xe s := by
  have e0 : Env0 X.prog X.w X.K X.mg X.base A X.stack s H := by
    have e := I.env0
    exact ⟨by rw [hA]; exact e.frames, e.mod, e.bs, e.bsz, e.funs, e.frf, e.hok, e.bare⟩
  have hl := F.len _ _ _ _ q
  have r2 : Vals [V.ref a, V.ref b] [Value.ref a, Value.ref b] := .cons rfl (.cons rfl .nil)
  refine wpAny_call (codeAny_mono (F.run A X.stack s H ⟨[.ref a, .ref b], []⟩ [.ref a, .ref b] [.ref a, .ref b] _ _ hr e0 (by
    have := hb s [.ref a, .ref b] I.kIn (by simpa using hl)
    simpa using this) r2 q) fun r s' hq => ?_)
  cases r with
  | error e => exact hx pins H s e s' I hq
  | ok fl =>
    cases fl with
    | ret w => exact I.after hq
    | next => exact False.elim hq
    | brk => exact False.elim hq
    | cont => exact False.elim hq
theorem op_eqO (hm : Meth X.K C "__eq__" f) (F : FnOk X.prog X.w X.K X.mg X.base CX k f fd ps sp) (hr : Room k X.A) (hb : Binds X.K fd ps []) (hx : ∀ σ, PassesAt CX X σ (fun _ _ _ => False)) : OpR X (compareOp .Eq) (rEqO C sp) := by
  intro pins s σ H x y v u Q I rx ry h
  obtain ⟨a, b, dx, dy, fs, gs, rfl, rfl, ha, hb', q⟩ := h
  cases (show v = Value.ref a from rx)
  cases (show u = Value.ref b from ry)
  obtain ⟨mA, J, _⟩ := ins_get I.hok ha
  obtain ⟨mB, J', _⟩ := ins_get I.hok hb'
  obtain ⟨od, J, _⟩ := J.look
  obtain ⟨od', J', _⟩ := J'.look
  obtain ⟨m, hF⟩ := I.fr
  show wpAny (model X.prog X.w) X.A (richCompare .Eq (.ref a) (.ref b)) (EP X pins σ Q) X.xe s
  refine PySem.W.cmp_K (op := .Eq) (tb := .ref C) hr.units0 hF I.ok.mod.kin J J'.type (by simp [PySem.W.notFirst]) hm.at_ hm.fn ?_
  refine wpAny_mono (eqO_run F hr rfl hb (hx σ) I q) (fun w s' z => ?_) fun _ _ x => x
  obtain ⟨z', H', I', rz, r, rfl, qz⟩ := z
  cases rz
  exact ⟨.bl r, H', I', rfl, qz⟩
theorem bind_ne (self : Value) : bindSpecial (.builtin "object.__ne__") self = pure (.builtin "object.__ne__", [self]) := F.cmp_object.ne.bind self
theorem neO_entry {A : Around} {s : Shared} {x : Addr} {ox : Obj} {od : Option Obj} {b : Value} {E : Value → Shared → Prop} {Q : Fin → Shared → Prop} (X0 : X.K.In s.heap) (I : PySem.W.InstAt s.heap x ox C od) (hu : A.units < cLine) (hq : PySem.W.findIn X.K (.ref C) "__eq__" = some (some (.ref f))) (hf : PySem.W.isFn X.K (.ref f) = true)
    (h : wpAny (model X.prog X.w) A (call (.ref f) [.ref x, b]) (fun v s' => ∃ r, v = .bool r ∧ Q (.done (.ret (.bool (!r)))) s') E s) : wpAny (model X.prog X.w) A (Builtin.«object.__ne__» ⟨[.ref x, b], []⟩) Q E s := by
  unfold Builtin.«object.__ne__»
  have step : wpAny (model X.prog X.w) A (callSpecialIfBound? (.ref x) "__eq__" [b]) (fun o s' => ∃ r, o = some (.bool r) ∧ Q (.done (.ret (.bool (!r)))) s') E s :=
    PySem.W.ifBound_K X0 I hq hf (wpAny_mono h (fun v s' ⟨r, e, q⟩ => ⟨r, by rw [e], q⟩) fun _ _ e => e)
  repeat (first | with_reducible refine wpAny_cRoomFor hu ?_ | with_reducible refine wpAny_mono step (fun o s' z => ?_) fun _ _ e => e | wp_step)
  obtain ⟨r, rfl, q⟩ := z
  refine wpAny_bind (wpAny_truthy_bool ?_)
  exact wpAny_pure q
theorem op_neO (hm : Meth X.K C "__eq__" f) (hne : PySem.W.findIn X.K (.ref C) "__ne__" = some (some (.builtin "object.__ne__"))) (hmr : PySem.W.mroIn X.K C (.type "object") = some true) (Fk : FnOk X.prog X.w X.K X.mg X.base CX k f fd ps sp) (hr : Room (k + 1) X.A) (hb : Binds X.K fd ps []) (hx : ∀ σ, PassesAt CX X σ (fun _ _ _ => False)) : OpR X (compareOp .NotEq) (rNeO C sp) := by
  intro pins s σ H x y v u Q I rx ry h
  obtain ⟨a, b, dx, dy, fs, gs, rfl, rfl, ha, hb', q⟩ := h
  cases (show v = Value.ref a from rx)
  cases (show u = Value.ref b from ry)
  obtain ⟨mA, J, _⟩ := ins_get I.hok ha
  obtain ⟨mB, J', _⟩ := ins_get I.hok hb'
  obtain ⟨od, J, _⟩ := J.look
  obtain ⟨od', J', _⟩ := J'.look
  obtain ⟨m, hF⟩ := I.fr
  have fin : wpAny (model X.prog X.w) X.A (tryCompare (.ref a) "__ne__" (.ref b)) (fun o s' => ∃ r, o = some (.bool r) ∧ EP X pins σ Q (.bool r) s') X.xe s := by
    have hc : wpAny (model X.prog X.w) X.A (call (.builtin "object.__ne__") [.ref a, .ref b]) (fun v s' => ∃ r, v = .bool r ∧ EP X pins σ Q (.bool r) s') X.xe s := by
      have L0 := (PySem.W.looks_mroIn (M := model X.prog X.w) I.kIn hmr)
      have hi : PySem.W.Looks (model X.prog X.w) s.heap (isInstance (.ref a) (.type "object")) true := by unfold isInstance; exact J.type.andThen L0
      refine wpAny_call (codeAny_call_builtin F.cmp_object.ne.plain F.cmpEntry_ne (PySem.W.check_slot F.cmpKind_ne F.cmpSplit_ne hi (F.cmpArgs_ne _ _) ?_))
      refine neO_entry (A := X.A.in1) I.kIn J hr.in1.units0 hm.at_ hm.fn ?_
      refine wpAny_mono (eqO_run (A := X.A.in1) Fk hr.in1 rfl hb (hx σ) I q) (fun w s' z => ?_) fun _ _ x => x
      obtain ⟨z', H', I', rz, r, rfl, qz⟩ := z
      cases rz
      exact ⟨r, rfl, !r, rfl, .bl (!r), H', I', rfl, qz⟩
    have hb2 : wpAny (model X.prog X.w) X.A (callSpecialIfBound? (.ref a) "__ne__" [.ref b]) (fun o s' => ∃ r, o = some (.bool r) ∧ EP X pins σ Q (.bool r) s') X.xe s := by
      simp only [callSpecialIfBound?, bindSpecialIfBound?]
      refine wpAny_holding (wpAny_bind (wpAny_bind (wpAny_bind (J.type.here ((PySem.W.looks_findIn I.kIn hne).here ?_)))))
      refine wpAny_bind (wpAny_askSetting (wpAny_ite ?_))
      simp only [bind_ne]
      have fin2 : wpAny (model X.prog X.w) X.A (call (.builtin "object.__ne__") ([.ref a] ++ [.ref b]) >>= fun v => pure (some v)) (fun o s' => ∃ r, o = some (.bool r) ∧ EP X pins σ Q (.bool r) s') X.xe s :=
        wpAny_bind (wpAny_mono hc (fun v s' ⟨r, e, q⟩ => wpAny_pure ⟨r, by rw [e], q⟩) fun _ _ h' => h')
      split
      · exact wpAny_bind (wpAny_pure (wpAny_pure fin2))
      · exact wpAny_tryCatch (wpAny_bind (wpAny_pure (wpAny_pure fin2)))
    simp only [tryCompare]
    refine wpAny_bind (wpAny_mono hb2 (fun o s' ⟨r, e, q⟩ => ?_) fun _ _ h' => h')
    subst e
    exact wpAny_pure ⟨r, rfl, q⟩
  show wpAny (model X.prog X.w) X.A (richCompare .NotEq (.ref a) (.ref b)) (EP X pins σ Q) X.xe s
  unfold richCompare
  simp only [oneThing_ref]
  refine wpAny_holding (wpAny_bind (wpAny_cRoomFor hr.units0 ?_))
  refine wpAny_bind (J.type.here (wpAny_bind (J'.type.here ?_)))
  have hself : ((Value.ref C != Value.ref C) && true) = false := by simp
  split
  · rename_i q; simp at q
  · refine wpAny_bind (wpAny_pure ?_)
    simp only [Bool.false_eq_true, if_false]
    refine wpAny_bind (wpAny_mono fin (fun o s' ⟨r, e, q⟩ => ?_) fun _ _ e => e)
    subst e
    exact wpAny_pure q
end
/-- x == y (x != y) by an own def of the class cn -/
def eEqO (cn : Str) (f : List Dt → Fq) (neg : Bool) (as : List AE) : EM Dt := fun ρ => (eArgs as ρ).bind fun ds ρ1 => match ds with
  | [.obj c1 fs, .obj c2 gs] => if c1 = cn ∧ c2 = cn then (match f [.obj c1 fs, .obj c2 gs] with | .ok (.bl b) _ => .ok (.bl (ng neg b)) ρ1 | _ => .stuck) else .stuck
  | _ => .stuck
/-- isinstance(x, cn), an own class -/
def isoD (cs : List Str) (cn : Str) : List Dt → Option Dt
  | [d] => match d with
    | .obj c _ => if cs.contains c then some (.bl (c == cn)) else none
    | d => (tyD d).map fun _ => .bl false
  | _ => none
structure IsoOk (cl : Str → Option Addr) (K : PySem.W.Frag) (cs : List Str) (cn : Str) (C : Addr) : Prop where
  own : ∀ c, cs.contains c = true → ∀ D, cl c = some D → Cls K D ∧ PySem.W.findIn K (.ref D) "__class__" = some (some (.builtin "object.__class__")) ∧ PySem.W.mroIn K D (.type "object") = some true ∧ PySem.W.kitOne K (.ref D) (.ref C) = some (c == cn)
  cls : PySem.W.specialIn K (.builtin "object.__class__") "__get__" = some (some (.builtin "getset_descriptor.__get__")) ∧ PySem.W.takesIn K (.builtin "object.__class__") = some true
  ty : PySem.W.kitOne K (.type "NoneType") (.ref C) = some false ∧ PySem.W.kitOne K (.type "bool") (.ref C) = some false ∧ PySem.W.kitOne K (.type "int") (.ref C) = some false ∧ PySem.W.kitOne K (.type "str") (.ref C) = some false ∧ PySem.W.kitOne K (.type "list") (.ref C) = some false ∧ PySem.W.kitOne K (.type "tuple") (.ref C) = some false
section
variable {cl : Str → Option Addr} {K : PySem.W.Frag} {c : Fx} {B : Addr → Prop} {Ai : Nat → Addr → Prop} {ss ss' : Ss} {ρ ρ' : Env} {σ : L2.St} {M H : Hp} {v : V} {d : Dt}
  {ta tb te : TE} {as : List AE} {tA : TA} {C : Addr}
theorem At.objI {cn : Str} {fs : List (Str × Dt)} (h : At cl K M v (.obj cn fs)) : ∃ a D dx xs, v = .ref a ∧ M a = some (.ins D dx xs) ∧ cl cn = some D := by
  cases h with
  | obj h1 hc hk hh => exact ⟨_, _, _, _, rfl, h1, hc⟩
theorem eqO_sp {gs : Sg} {cn : Str} {h : List Dt → Fq} {neg : Bool} (hC : cl cn = some C) (ha : SA cl K c ss (tCons ta (tCons tb tNil)) as) (hv : valAs as = true) (hk : okArgs ss gs.ps as = true) (hko : okBack ss ss gs.po as = true) (hkx : okBack ss ss gs.px as = true) (hrs : gs.rs = .fz)
    {Q : VK} (R : Rep cl K c.F B Ai ss ρ σ H) (p : EPost cl K c B Ai ss σ H .fz Q (eEqO cn h neg as ρ)) :
    (tCons ta (tCons tb tNil)) σ H fun vs H1 => match vs with
      | [x, y] => ∃ a b dx dy fs gs', x = .ref a ∧ y = .ref b ∧ H1 a = some (.ins C dx fs) ∧ H1 b = some (.ins C dy gs') ∧ spD cl K gs h [x, y] H1 (fun z H' => ∃ r, z = .bl r ∧ Q (.bl (ng neg r)) H') (fun _ _ _ => False)
      | _ => False := by
  unfold eEqO at p
  refine ha.use R (fun ds ρ1 e1 vs Ai1 H1 x1 R1 ok => ?_) (fun x ρ1 e1 => by rw [e1] at p; exact p) fun e1 => by rw [e1] at p; exact p
  simp only [e1, Er.bind] at p
  obtain ⟨hl, hat⟩ := ok.ats hv
  split at p
  · rename_i c1 fs c2 gs2
    split at p
    · rename_i hc
      obtain ⟨rfl, rfl⟩ := hc
      obtain ⟨x, y, rfl⟩ : ∃ x y, vs = [x, y] := by
        match vs, hl with
        | [x, y], _ => exact ⟨x, y, rfl⟩
      obtain ⟨a, D, dx, xs, ex, m1, d1⟩ := (hat 0 x _ rfl rfl).objI
      obtain ⟨b, D', dy, ys, ey, m2, d2⟩ := (hat 1 y _ rfl rfl).objI
      rw [hC] at d1 d2
      cases d1
      cases d2
      refine ⟨a, b, dx, dy, xs, ys, ex, ey, mask_same _ _ m1, mask_same _ _ m2, ?_⟩
      have r := run_call (c := { c with W := fun _ _ _ _ => False, sx := [] }) (g := gs) (f := h) (sz := ss) (ss := ss) (ss' := ss) (dvs := []) (dds := []) (Q := fun z H' => ∃ r, z = .bl r ∧ Q (.bl (ng neg r)) H') (W := fun _ _ _ _ => False) (fun _ => val_ix0 hv) rfl (okArgs_at hk) (okBack_at hko) (okBack_at hkx) consts_nil rfl R1 ok (by
        cases hr : h [.obj c2 fs, .obj c2 gs2] with
        | stuck => rw [hr] at p; exact p.elim
        | ex e outs => rw [hr] at p; exact p.elim
        | ok d outs =>
          rw [hr] at p
          cases d with
          | bl b =>
            simp only [List.append_nil, hr]
            intro v Ai' H' x R' o
            rw [hrs] at o
            obtain rfl := Bor.bl (.at o.fzAt.1) (H := H')
            rw [putO_val hv] at R'
            obtain ⟨Ai2, x2, R2, o2⟩ := R'.res (.old (.bl (ng neg b)))
            exact ⟨b, rfl, p _ Ai2 H' ((x1.trans x).trans x2) R2 o2⟩
          | _ => exact p.elim)
      rw [List.append_nil] at r
      exact r
    · exact p.elim
  · exact p.elim
theorem se_eqO {gs : Sg} {cn : Str} {h : List Dt → Fq} (hC : cl cn = some C) (ha : SA cl K c ss (tCons ta (tCons tb tNil)) as) (hv : valAs as = true := by rfl) (hk : okArgs ss gs.ps as = true := by rfl) (hko : okBack ss ss gs.po as = true := by rfl) (hkx : okBack ss ss gs.px as = true := by rfl) (hrs : gs.rs = .fz := by rfl) :
    SE cl K c ss .fz (tOp (rEqO C (spD cl K gs h)) ta tb) (eEqO cn h false as) := fun B Ai ρ σ H Q R p => by
  exact eqO_sp (neg := false) hC ha hv hk hko hkx hrs R p
theorem se_neO {gs : Sg} {cn : Str} {h : List Dt → Fq} (hC : cl cn = some C) (ha : SA cl K c ss (tCons ta (tCons tb tNil)) as) (hv : valAs as = true := by rfl) (hk : okArgs ss gs.ps as = true := by rfl) (hko : okBack ss ss gs.po as = true := by rfl) (hkx : okBack ss ss gs.px as = true := by rfl) (hrs : gs.rs = .fz := by rfl) :
    SE cl K c ss .fz (tOp (rNeO C (spD cl K gs h)) ta tb) (eEqO cn h true as) := fun B Ai ρ σ H Q R p => by
  exact eqO_sp (neg := true) hC ha hv hk hko hkx hrs R p
theorem os_iso {cs : List Str} {cn : Str} (hk : IsoOk cl K cs cn C) : OpS cl K (isoD cs cn) (fun xs H Q => match xs with | [x] => rIsi K [x, .ref C] H Q | _ => False) := fun M H vs ds z Q sm hb e q => by
  unfold isoD at e
  split at e
  · rename_i d
    obtain ⟨v, rfl, h⟩ := hb.one
    obtain ⟨k1, k2, k3, k4, k5, k6⟩ := hk.ty
    split at e
    · rename_i c fs
      split at e
      · rename_i hc
        cases e
        rcases h with h | ⟨h1, h2, h3⟩
        · obtain ⟨a, D, dx, xs, rfl, m1, d1⟩ := h.objI
          obtain ⟨o1, o2, o3, o4⟩ := hk.own c hc D d1
          exact ⟨.ref a, .ref C, .ref D, .ref C, c == cn, rfl, .own C, .base (.ins (sm _ _ m1) o1 o2 hk.cls.1 hk.cls.2 o3), o4, q _ _ (.old (.bl _))⟩
        · cases h3
      · cases e
    · rename_i hno
      simp only [Option.map_eq_some_iff] at e
      obtain ⟨t, ht, rfl⟩ := e
      have fin : Q (.bl false) H := q _ _ (.old (.bl _))
      refine ⟨v, .ref C, .type t, .ref C, false, rfl, .own C, h.tyx sm ht, ?_, fin⟩
      cases d <;> simp only [tyD] at ht <;> first | (cases ht; assumption) | cases ht
  · cases e
theorem se_iso {cs : List Str} {cn : Str} (hk : IsoOk cl K cs cn C) (ha : SA cl K c ss (tCons te tNil) as) (hf : flatAs ss as = true := by rfl) : SE cl K c ss .fz (tCB (rIsi K) (tCons te (tCons (tC (.ref C)) tNil))) (eOp (isoD cs cn) as) := fun B Ai ρ σ H Q R p => se_op (k := fun xs H Q => match xs with | [x] => rIsi K [x, .ref C] H Q | _ => False) (tA := tCons te tNil) (os_iso hk) ha hf B Ai ρ σ H Q R p
end
/-! ### slices of tuples, the whole too -/
section
open HT
variable {prog : Program} {w : World} {A : Around} {E : Value → Shared → Prop} {s : Shared}
theorem getItem_tuple_whole {t sl : Addr} {items : Array Value} {vl vu : Value} {lo hi : Option Int} {Q : Value → Shared → Prop} (ht : IsTup s.heap t items) (hs : s.heap.IsSliceOf sl vl vu .none) (pl : IsPart vl lo) (pu : IsPart vu hi)
    (hw : sIx items.size 0 lo = 0 ∧ sIx items.size items.size hi = items.size) (h : Q (.ref t) s) : wpAny (model prog w) A (getItem (.ref t) (.ref sl)) Q E s := by
  obtain ⟨os, hos, hcs, hds⟩ := id hs
  have hTs : s.TypeIs (.ref sl) "slice" := ⟨os, hos, hcs⟩
  unfold getItem
  try with_reducible refine wpAny_holding ?_
  first | refine wpAny_bind (wpAny_pure ?_) | skip
  refine wpAny_bind (wpAny_sequenceKey ht.typeIs (by decide) ?_)
  refine wpAny_bind (wpAny_callSpecial?_slot (name := Str.ofString "__getitem__") ht.typeIs PyProof.Rows.slot_tuple_getitem
    (wpAny_call_entry PyProof.Rows.slot_tuple_getitem ht.typeIs entry_tuple_getitem ?_ (args_tuple_getitem _ _)))
  show wpAny _ _ (Builtin.Tuple.tupleItemsOf (.ref t) >>= _) _ _ s
  refine wpAny_bind (tupleItemsOf_ ht ?_)
  refine wpAny_bind (wpAny_typeOf hTs ?_)
  rw [if_pos (by decide)]
  refine wpAny_bind (sliceApplied_gen hs pl pu ?_)
  have hyes : ((((sIx items.size 0 lo : Nat) : Int) == 0 && (1 : Int) == 1 && (sIx items.size items.size hi - sIx items.size 0 lo) == items.size) = true) := by
    rw [hw.1, hw.2]; simp
  show wpAny _ _ (if (((sIx items.size 0 lo : Nat) : Int) == 0 && (1 : Int) == 1 && (sIx items.size items.size hi - sIx items.size 0 lo) == items.size) = true then _ else _) _ _ s
  rw [if_pos hyes]
  unfold Builtin.Tuple.tupleIsExact
  refine wpAny_bind (wpAny_bind (wpAny_typeOf ht.typeIs ?_))
  refine wpAny_pure ?_
  rw [if_pos (by decide)]
  repeat (first | exact wpAny_pure ⟨_, rfl, wpAny_pure h⟩ | wp_step)
end
def rSlTW (K : PySem.W.Frag) : V → Option Int → Option Int → Hp → VK → Prop := fun x lo hi H Q => ∃ a xs, x = .ref a ∧ SqT K H a xs ∧
  ((HT.sIx xs.length 0 lo = 0 ∧ HT.sIx xs.length xs.length hi = xs.length ∧ Q (.ref a) H) ∨ (¬ (HT.sIx xs.length 0 lo = 0 ∧ HT.sIx xs.length xs.length hi = xs.length) ∧ ∀ p, H p = none → Q (.ref p) (upd H p (.tup (cutV xs lo hi)))))
theorem sl_tupW {X : Cx} (K : PySem.W.Frag) (eK : X.K = K := by rfl) : SlR X (rSlTW K) := by
  subst eK
  intro pins s σ H x v vl vu lo hi sl Q I rx hs pl pu h
  obtain ⟨a, xs, rfl, hx, hw⟩ := h
  rcases hw with ⟨h1, h2, q⟩ | ⟨hw, q⟩
  · cases rx
    obtain ⟨its, r, ht, hz⟩ := I.tuple hx
    have hlen : its.toArray.size = xs.length := by rw [List.size_toArray]; exact r.length.symm
    refine ⟨"tuple", _, PyProof.Rows.slot_tuple_getitem.lookup, ht.typeIs, ?_⟩
    exact getItem_tuple_whole ht hs pl pu (by rw [hlen]; exact ⟨h1, h2⟩) ⟨.ref a, H, I, rfl, q⟩
  · exact sl_tup pins s σ H _ v vl vu lo hi sl Q I rx hs pl pu ⟨a, xs, rfl, hx, hw, q⟩
def sliceU (d : Dt) (lo hi : Option Int) : Option Dt := match d with
  | .tup l => some (.tup (cutL l lo hi))
  | _ => none
section
variable {cl : Str → Option Addr} {K : PySem.W.Frag}
theorem slS_tupW : SlS cl K .fz sliceU (rSlTW K) := fun M H v d z lo hi Q sm hb e q => by
  unfold sliceU at e
  split at e
  · rename_i l
    cases e
    obtain ⟨a, xs, rfl, a1, a2⟩ := hb.tupA sm
    refine ⟨a, xs, rfl, a1, ?_⟩
    by_cases hw : HT.sIx xs.length 0 lo = 0 ∧ HT.sIx xs.length xs.length hi = xs.length
    · refine .inl ⟨hw.1, hw.2, q _ _ ⟨.old ?_, fun h => absurd rfl h⟩⟩
      have e : cutL l lo hi = l := by
        unfold cutL
        rw [← a2.1, hw.1, hw.2, List.drop_zero, Nat.sub_zero, a2.1, List.take_length]
      rw [e]
      exact hb.tupAt
    · exact .inr ⟨hw, fun p n => q _ _ ⟨.new n (.tupA (a2.cut lo hi)), fun h => absurd rfl h⟩⟩
  · cases e
end
/-! ### x *= e, xs[i] op= e, index, count -/
section
variable {X : Cx}
def ipM : TIp := fun x y H Q => ∃ i j, x = .int i ∧ y = .int j ∧ CMul i j ∧ Q (.int (i * j)) H
theorem ip_mul : PIp X .Mult ipM := by
  intro pins s σ H x y v u Q I r1 r2 h
  obtain ⟨i, j, e1, e2, hc, q⟩ := h
  subst e1; subst e2
  obtain ⟨t, rfl⟩ := r1
  obtain ⟨t', rfl⟩ := r2
  exact imul_int ⟨.int _, H, I.tok _, ⟨_, rfl⟩, q⟩ hc.ok
/-- t.index(x), flat items -/
def rIndexT (K : PySem.W.Frag) : V → List V → Hp → VK → Prop := fun x xs H Q => ∃ (a : Addr) (ys : List V) (y : V) (j : Nat) (z : V), x = V.ref a ∧ xs = [y] ∧ SqT K H a ys ∧ flatV y = true ∧ ys.all flatV = true ∧ ys[j]? = some z ∧ eqV z y = true ∧
  (∀ (m : Nat) (z' : V), m < j → ys[m]? = some z' → eqV z' y = false) ∧ Q (.int (j : Nat)) H
theorem mt_indexT : MtR X "tuple.index" (rIndexT X.K) := by
  intro pins s σ H x xs v us Q I rx rxs h
  obtain ⟨a, ys, y, j, z, rfl, rfl, hs, fy, fys, hz, hzj, hno, q⟩ := h
  cases rx
  cases rxs with
  | cons ry rt =>
    rename_i uy ut
    cases rt
    obtain ⟨its, rv, pl, hlen⟩ := I.tuple hs
    obtain ⟨⟨cls, dd, dt, sl⟩, ho, hc, n, hd⟩ := pl
    simp only at hc hd
    subst hc hd
    obtain ⟨u, hu, ru⟩ := rv.get hz
    obtain ⟨hjl, hje⟩ := List.getElem?_eq_some_iff.mp hu
    have hvl := rv.length
    have hj : j < its.toArray.size := by simpa using hjl
    refine call_meets PySem.F.slot_tuple_index ⟨_, ho, rfl⟩ PySem.F.entry_tuple_index (PySem.F.args_tuple_index_2 _ _) (TI.tuple_indexAt a its.toArray n dd sl uy (eqU y) j hj ?_ ?_)
      ⟨ho, fun u' hu' => mem_eqAt ry fy rv fys u' (by simpa using hu'), ⟨.int (j : Nat), H, I.tok _, ⟨_, rfl⟩, q⟩⟩
    · have e1 : its.toArray[j] = u := by simpa using hje
      rw [e1, eqU_of ru (flat_at fys hz)]
      exact hzj
    · intro m hm hmj
      have hml : m < its.length := by simpa using hm
      have hmy : m < ys.length := by omega
      have hy' : ys[m]? = some ys[m] := List.getElem?_eq_getElem hmy
      obtain ⟨u2, hu2, ru2⟩ := rv.get hy'
      obtain ⟨_, hme⟩ := List.getElem?_eq_some_iff.mp hu2
      have e1 : its.toArray[m] = u2 := by simpa using hme
      rw [e1, eqU_of ru2 (flat_at fys hy')]
      exact hno m _ hmj hy'
end
def mulI : List Dt → Option Dt
  | [.int i, .int j] => if CMul i j then some (.int (i * j)) else none
  | _ => none
/-- xs.index(v), v there -/
def indexL (l : List Dt) : List Dt → Option Dt
  | [z] => if flatB z = true ∧ l.all flatB = true then (l.findIdx? (fun y => eqF y z)).map fun j => .int (j : Nat) else none
  | _ => none
def indexD : List Dt → Option Dt
  | [x, z] => match lstI x with | some l => indexL l [z] | none => none
  | _ => none
def indexT : List Dt → Option Dt
  | [.tup l, z] => indexL l [z]
  | _ => none
def countD : List Dt → Option Dt
  | [x, .int k] => match lstI x with | some l => (intsD l).map fun ns => .int (ns.count k : Nat) | none => none
  | _ => none
/-- o.m(args): o a list, a tuple, a text -/
def sAugS (i : Nat) (k : EM Dt) (f : List Dt → Option Dt) (e : EM Dt) : SM := fun ρ => if (gv ρ i).isSome then (k ρ).go fun z ρ1 => (match gv ρ1 i, z with
  | some (.lst l), .int n => (match ixN l.length n with
    | some j => (match l[j]? with
      | some old => (e ρ1).go fun d ρ2 => (match gv ρ2 i, f [old, d] with
        | some (.lst l2), some new => (if l2.length = l.length then .nx (ρ2.set i (some (.lst (l2.set j new)))) else .stuck)
        | _, _ => .stuck)
      | none => .stuck)
    | none => .stuck)
  | _, _ => .stuck) else .stuck
section
variable {cl : Str → Option Addr} {K : PySem.W.Frag} {c : Fx} {B : Addr → Prop} {Ai : Nat → Addr → Prop} {ss ss' : Ss} {ρ ρ' : Env} {σ : L2.St} {M H : Hp} {v : V} {d : Dt} {xs : List V} {l : List Dt}
  {ta tb te ti : TE} {e k : EM Dt} {as : List AE} {tA : TA}
theorem os_mulI : OpS cl K mulI (fun vs H Q => match vs with | [x, y] => ipM x y H Q | _ => False) := fun M H vs ds z Q sm hb e q => by
  unfold mulI at e
  split at e
  · split at e
    · rename_i hc
      cases e
      obtain ⟨v, w, rfl, h1, h2⟩ := hb.two
      exact ⟨_, _, h1.int, h2.int, hc, q _ _ (.old (.int _))⟩
    · cases e
  · cases e
theorem index_at {x : V} {z : Dt} {ys : List V} (hx : At cl K M x z) (hz : flatB z = true) (h : AtsL cl K M ys l) (hl : l.all flatB = true) {j : Nat} (hj : l.findIdx? (fun y => eqF y z) = some j) :
    flatV x = true ∧ ys.all flatV = true ∧ ∃ w, ys[j]? = some w ∧ eqV w x = true ∧ ∀ (m : Nat) (w' : V), m < j → ys[m]? = some w' → eqV w' x = false := by
  obtain ⟨h1, h2, h3⟩ := List.findIdx?_eq_some_iff_getElem.mp hj
  have hf : ∀ {m : Nat} (hm : m < l.length), flatB l[m] = true := fun hm => List.all_eq_true.mp hl _ (List.getElem_mem hm)
  obtain ⟨w, hw, hat⟩ := h.at (List.getElem?_eq_getElem h1)
  refine ⟨hx.flat hz, (inV_at hx hz h hl).1, w, hw, by rw [At.eqF hat hx (hf h1) hz]; exact h2, fun m w' hm e => ?_⟩
  have hml : m < l.length := by omega
  have := h.2 m w' _ e (List.getElem?_eq_getElem hml)
  rw [At.eqF this hx (hf hml) hz]
  simpa using h3 m hm
/-- xs[i] op= e -/
theorem ss_augS {i : Nat} {f : List Dt → Option Dt} {r : TIp} (hf : OpS cl K f (fun vs H Q => match vs with | [x, y] => r x y H Q | _ => False)) (hk : SE cl K c ss .fz ti k) (he : SE cl K c ss .fz te e) (hs : sh ss i = .ls .fz := by rfl) (hqq : c.q = false := by rfl) :
    SS cl K c ss ss (tAugS (tVar i) ti te (rIxL K) r rSetL) (sAugS i k f e) := fun B Ai ρ σ H D R p => by
  unfold sAugS at p
  cases e0 : gv ρ i with
  | none => rw [e0] at p; exact p.elim
  | some d0 =>
    simp only [e0, Option.isSome_some, if_true] at p
    obtain ⟨w, w1, w2⟩ := R.get (gv_some e0)
    refine ⟨w, w1, hk.use R (fun z ρ1 e1 u Ai1 H1 x1 R1 o1 => ?_) (fun x ρ1 e1 => by rw [e1] at p; exact p) fun e1 => by rw [e1] at p; exact p⟩
    simp only [e1, Er.go] at p
    split at p
    · rename_i l n ed
      split at p
      · rename_i j hj
        split at p
        · rename_i old hold
          obtain ⟨w', g1, g2⟩ := R1.get (gv_some ed)
          rw [w1] at g1
          cases g1
          rw [hs] at g2
          obtain ⟨q, xs, rfl, hq, hxs, _⟩ := g2.lsFz
          obtain rfl := Bor.int (.at o1.fzAt.1) (H := H1)
          obtain ⟨ov, hov, hat⟩ := hxs.at hold
          refine ⟨q, xs, n, ov, rfl, rfl, SqL.of hq, ?_, ?_⟩
          · unfold atI; rw [hxs.1, hj]; exact hov
          refine he.use R1 (fun d ρ2 e2 y Ai2 H2 x2 R2 o2 => ?_) (fun x ρ2 e2 => by rw [e2] at p; exact XPost.ext x1 p) fun e2 => by rw [e2] at p; exact p
          simp only [e2] at p
          split at p
          · rename_i l2 new ed2 hnew
            split at p
            · rename_i hll
              refine hf _ H2 [ov, y] [old, d] new _ mask_same (.cons (.at (hat.mono x2.same)) (.cons (.at o2.fzAt.1) .nil)) hnew fun u H3 hu => ?_
              obtain ⟨Ai3, x3, R3, o3⟩ := R2.res hu
              obtain ⟨w'', g3, g4⟩ := R3.get (gv_some ed2)
              rw [w1] at g3
              cases g3
              rw [hs] at g4
              obtain ⟨q2, xs2, eq2, hq2, hxs2, _⟩ := g4.lsFz
              cases eq2
              obtain ⟨Ai4, x4', R4⟩ := R3.mut hs (gv_some ed2) w1 (hxs2.set j o3.fzAt.1)
              have x4 := x4'.fq hqq
              exact ⟨q, xs2, n, j, rfl, rfl, hq2, by rw [hxs2.1, hll]; exact hj, p σ Ai4 _ (((x1.trans x2).trans x3).trans x4) R4 fun _ _ => rfl⟩
            · exact p.elim
          · exact p.elim
        · exact p.elim
      · exact p.elim
    · exact p.elim
end
/-! ### o.m(args) of built-in types: o a value -/
def eBm (ok : Dt → Bool) (f : Dt → List Dt → Option Dt) (e0 : EM Dt) (as : List AE) : EM Dt := fun ρ => (e0 ρ).bind fun d ρ1 => if ok d = true then (eArgs as ρ1).bind fun ds ρ2 => (match f d ds with | some z => .ok z ρ2 | none => .stuck) else .stuck
structure BmS (cl : Str → Option Addr) (K : PySem.W.Frag) (T : String) (ok : Dt → Bool) (f : Dt → List Dt → Option Dt) (r : V → List V → Hp → VK → Prop) : Prop where
  ty : ∀ M H v d, Same M H → At cl K M v d → ok d = true → tyV K T v H
  op : ∀ M H v d vs ds z Q, Same M H → At cl K M v d → vs.length = ds.length → (∀ (i : Nat) v d, vs[i]? = some v → ds[i]? = some d → At cl K M v d) → f d ds = some z → (∀ w H', Res cl K M H w H' z → Q w H') → r v vs H Q
section
variable {cl : Str → Option Addr} {K : PySem.W.Frag} {c : Fx} {B : Addr → Prop} {Ai : Nat → Addr → Prop} {ss ss' : Ss} {ρ ρ' : Env} {σ : L2.St} {M H : Hp} {v : V} {d : Dt} {xs : List V} {l : List Dt}
  {ta tb te ti : TE} {e k : EM Dt} {as : List AE} {tA : TA} {T : String} {ok : Dt → Bool} {f : Dt → List Dt → Option Dt} {r : V → List V → Hp → VK → Prop}
theorem se_bm (hb : BmS cl K T ok f r) (he : SE cl K c ss .fz te e) (ha : SA cl K c ss tA as) (hv : valAs as = true := by rfl) : SE cl K c ss .fz (tBM K T r te tA) (eBm ok f e as) := fun B Ai ρ σ H Q R p => by
  unfold eBm at p
  refine he.use R (fun d ρ1 e1 v Ai1 H1 x1 R1 o1 => ?_) (fun x ρ1 e1 => by rw [e1] at p; exact p) fun e1 => by rw [e1] at p; exact p
  simp only [e1, Er.bind] at p
  split at p
  · rename_i hok
    refine ⟨hb.ty _ _ _ _ mask_same o1.fzAt.1 hok, ?_⟩
    refine ha.use R1 (fun ds ρ2 e2 vs Ai2 H2 x2 R2 oa => ?_) (fun x ρ2 e2 => by simp only [e2] at p; exact XPost.ext x1 p) fun e2 => by simp only [e2] at p; exact p
    simp only [e2] at p
    obtain ⟨hl, hat⟩ := oa.ats hv
    cases ez : f d ds with
    | none => rw [ez] at p; exact p.elim
    | some z =>
      rw [ez] at p
      refine hb.op _ H2 v d vs ds z Q mask_same (o1.fzAt.1.mono x2.same) hl hat ez fun w H3 hw => ?_
      obtain ⟨Ai3, x3, R3, o3⟩ := R2.res hw
      exact p w Ai3 H3 ((x1.trans x2).trans x3) R3 o3
  · exact p.elim
theorem se_bm0 (hb : BmS cl K T ok f r) (he : SE cl K c ss .fz te e) : SE cl K c ss .fz (tBM0 K T r te) (eBm ok f e []) := fun B Ai ρ σ H Q R p => by
  unfold eBm at p
  refine he.use R (fun d ρ1 e1 v Ai1 H1 x1 R1 o1 => ?_) (fun x ρ1 e1 => by rw [e1] at p; exact p) fun e1 => by rw [e1] at p; exact p
  simp only [e1, Er.bind, eArgs] at p
  split at p
  · rename_i hok
    refine ⟨hb.ty _ _ _ _ mask_same o1.fzAt.1 hok, ?_⟩
    cases ez : f d [] with
    | none => rw [ez] at p; exact p.elim
    | some z =>
      rw [ez] at p
      refine hb.op _ H1 v d [] [] z Q mask_same o1.fzAt.1 rfl (fun i v d e => by simp at e) ez fun w H3 hw => ?_
      obtain ⟨Ai3, x3, R3, o3⟩ := R1.res hw
      exact p w Ai3 H3 (x1.trans x3) R3 o3
  · exact p.elim
end
/-! ### methods of lists and texts; str, ord, sorted -/
section
variable {X : Cx}
theorem mt_indexK (K : PySem.W.Frag) (eK : X.K = K := by rfl) : MtR X "list.index" (rIndex K) := by subst eK; exact mt_index
theorem mt_countK (K : PySem.W.Frag) (eK : X.K = K := by rfl) : MtR X "list.count" (rCntI K) := by subst eK; exact mt_lcount
def rJoin (K : PySem.W.Frag) : V → List V → Hp → VK → Prop := fun x xs H Q => ∃ a p, ∃ ys : List Str, x = .str a ∧ xs = [.ref p] ∧ (SqL K H p (ys.map V.str) ∨ SqT K H p (ys.map V.str)) ∧ (ys.map (·.length)).sum + ys.length * a.length ≤ 16777216 ∧ Q (.str (Txt.join a ys)) H
theorem mt_joinK (K : PySem.W.Frag) (eK : X.K = K := by rfl) : MtR X "str.join" (rJoin K) := by subst eK; exact mt_join
theorem cr_sortedK (K : PySem.W.Frag) (eK : X.K = K := by rfl) : CallR X (.builtin "sorted") (rSortedI K) := by subst eK; exact cr_sortedI
end
def isLst (d : Dt) : Bool := (lstI d).isSome
def isStr : Dt → Bool | .str _ => true | _ => false
def indexF (d : Dt) (ds : List Dt) : Option Dt := match lstI d with | some l => indexL l ds | none => none
def countF (d : Dt) (ds : List Dt) : Option Dt := countD (d :: ds)
def textsD : List Dt → Option (List Str)
  | [] => some []
  | .str x :: r => (textsD r).map (x :: ·)
  | _ => none
def joinF (d : Dt) (ds : List Dt) : Option Dt := match d, ds with
  | .str a, [x] => (match seqI x with
    | some l => (match textsD l with
      | some ys => if (ys.map (·.length)).sum + ys.length * a.length ≤ 16777216 then some (.str (Txt.join a ys)) else none
      | none => none)
    | none => none)
  | _, _ => none
def findF (d : Dt) (ds : List Dt) : Option Dt := match d, ds with
  | .str a, [.str b] => some (.int (Txt.find a b))
  | .str a, [.str b, .int i] => some (.int (Txt.find3 a b i))
  | _, _ => none
def splitF (d : Dt) (ds : List Dt) : Option Dt := match d, ds with
  | .str a, [.str b] => if (b.length == 0) = false ∧ a.length + 2 ≤ 16777216 then some (.lst ((Txt.split a b).map .str)) else none
  | _, _ => none
def startsF (d : Dt) (ds : List Dt) : Option Dt := match d, ds with
  | .str a, [.str b] => some (.bl (Txt.startswith a b))
  | _, _ => none
def rstripF (d : Dt) (ds : List Dt) : Option Dt := match d, ds with
  | .str a, [.str b] => if a.length ≤ 16777216 then some (.str (Txt.rstripChars a b)) else none
  | _, _ => none
def strD : List Dt → Option Dt
  | [.int i] => if i.natAbs.log2 < 1920 then some (.str (toString i)) else none
  | _ => none
def ordD : List Dt → Option Dt
  | [.str x] => if x.length = 1 then some (.int (x.cps.getD 0 0 : Nat)) else none
  | _ => none
def insI (x : Int) : List Int → List Int
  | [] => [x]
  | y :: r => if x ≤ y then x :: y :: r else y :: insI x r
def sortI : List Int → List Int
  | [] => []
  | x :: r => insI x (sortI r)
theorem insI_perm (x : Int) : ∀ l : List Int, (insI x l).Perm (x :: l)
  | [] => .refl _
  | y :: r => by
    unfold insI
    split
    · exact .refl _
    · exact ((insI_perm x r).cons y).trans (List.Perm.swap x y r)
theorem sortI_perm : ∀ l : List Int, (sortI l).Perm l
  | [] => .refl _
  | x :: r => (insI_perm x (sortI r)).trans ((sortI_perm r).cons x)
theorem insI_sorted (x : Int) : ∀ l : List Int, l.Pairwise (· ≤ ·) → (insI x l).Pairwise (· ≤ ·)
  | [], _ => List.pairwise_singleton _ _
  | y :: r, h => by
    unfold insI
    split
    · rename_i hxy
      exact List.pairwise_cons.mpr ⟨fun z hz => by
        rcases List.mem_cons.mp hz with rfl | hz
        · exact hxy
        · exact Int.le_trans hxy (List.rel_of_pairwise_cons h hz), h⟩
    · rename_i hxy
      refine List.pairwise_cons.mpr ⟨fun z hz => ?_, insI_sorted x r h.tail⟩
      rcases List.mem_cons.mp ((insI_perm x r).mem_iff.mp hz) with rfl | hz
      · omega
      · exact List.rel_of_pairwise_cons h hz
theorem sortI_sorted : ∀ l : List Int, (sortI l).Pairwise (· ≤ ·)
  | [] => .nil
  | x :: r => insI_sorted x _ (sortI_sorted r)
theorem sorted_one : ∀ {l m : List Int}, l.Perm m → l.Pairwise (· ≤ ·) → m.Pairwise (· ≤ ·) → l = m := by
  intro l
  induction l with
  | nil => intro m p _ _; rw [List.nil_perm.mp p]
  | cons x r ih =>
    intro m p h1 h2
    cases m with
    | nil => exact absurd (List.nil_perm.mp p.symm) (by simp)
    | cons y s =>
      have hx := (p.mem_iff (a := x)).mp (.head _)
      have hy := (p.mem_iff (a := y)).mpr (.head _)
      have hxy : x = y := by
        rcases List.mem_cons.mp hx with h | h
        · exact h
        · rcases List.mem_cons.mp hy with h' | h'
          · exact h'.symm
          · have := List.rel_of_pairwise_cons h1 h'; have := List.rel_of_pairwise_cons h2 h; omega
      subst hxy
      rw [ih (List.Perm.cons_inv p) h1.tail h2.tail]
def sortedD : List Dt → Option Dt
  | [x] => match lstI x with | some l => (intsD l).map fun ns => .lst ((sortI ns).map .int) | none => none
  | _ => none
section
variable {cl : Str → Option Addr} {K : PySem.W.Frag} {c : Fx} {M H : Hp} {v : V} {d : Dt} {xs : List V} {l : List Dt}
theorem At.bor (h : At cl K M v d) : Bor cl K M H v d := .at h
theorem one_of {vs : List V} {x : Dt} (hl : vs.length = [x].length) (h : ∀ (i : Nat) v d, vs[i]? = some v → [x][i]? = some d → At cl K M v d) : ∃ v, vs = [v] ∧ At cl K M v x := by
  match vs, hl with
  | [v], _ => exact ⟨v, rfl, h 0 v x rfl rfl⟩
theorem two_of {vs : List V} {x y : Dt} (hl : vs.length = [x, y].length) (h : ∀ (i : Nat) v d, vs[i]? = some v → [x, y][i]? = some d → At cl K M v d) : ∃ v w, vs = [v, w] ∧ At cl K M v x ∧ At cl K M w y := by
  match vs, hl with
  | [v, w], _ => exact ⟨v, w, rfl, h 0 v x rfl rfl, h 1 w y rfl rfl⟩
theorem bm_index : BmS cl K "list" isLst indexF (rIndex K) where
  ty M H v d sm h ok := by
    unfold isLst at ok
    obtain ⟨l, hl⟩ := Option.isSome_iff_exists.mp ok
    obtain ⟨a, xs, rfl, a1, _⟩ := (Bor.at h (H := H)).lstsA sm hl
    exact .inl ⟨rfl, xs, a1⟩
  op M H v d vs ds z Q sm h hl hat e q := by
    unfold indexF at e
    split at e
    · rename_i l hll
      unfold indexL at e
      split at e
      · rename_i y
        split at e
        · rename_i hf
          simp only [Option.map_eq_some_iff] at e
          obtain ⟨j, hj, rfl⟩ := e
          obtain ⟨x, rfl, hx⟩ := one_of hl hat
          obtain ⟨a, xs, rfl, a1, a2⟩ := (Bor.at h (H := H)).lstsA sm hll
          obtain ⟨i1, i2, w, i3, i4, i5⟩ := index_at hx hf.1 a2 hf.2 hj
          exact ⟨a, xs, x, j, w, rfl, rfl, a1, i1, i2, i3, i4, i5, q _ _ (.old (.int _))⟩
        · cases e
      · cases e
    · cases e
theorem bm_count : BmS cl K "list" isLst countF (rCntI K) where
  ty M H v d sm h ok := bm_index.ty M H v d sm h ok
  op M H v d vs ds z Q sm h hl hat e q := by
    unfold countF countD at e
    split at e
    · rename_i x k ed
      cases ed
      split at e
      · rename_i l hll
        simp only [Option.map_eq_some_iff] at e
        obtain ⟨ns, hn, rfl⟩ := e
        obtain ⟨w, rfl, hw⟩ := one_of hl hat
        obtain rfl := Bor.int (.at hw) (H := H)
        obtain ⟨a, xs, rfl, a1, a2⟩ := (Bor.at h (H := H)).lstsA sm hll
        rw [intsD_at hn] at a2
        rw [a2.ints] at a1
        exact ⟨a, ns, k, rfl, rfl, a1, q _ _ (.old (.int _))⟩
      · cases e
    · cases e
theorem str_ty (M H : Hp) (v : V) (d : Dt) (_ : Same M H) (h : At cl K M v d) (ok : isStr d = true) : tyV K "str" v H := by
  cases d with
  | str x => obtain rfl := Bor.str (.at h) (H := H); rfl
  | _ => cases ok
theorem textsD_at : ∀ {l : List Dt} {ys : List Str}, textsD l = some ys → l = ys.map .str
  | [], ys, h => by cases h; rfl
  | .str x :: r, ys, h => by
    simp only [textsD, Option.map_eq_some_iff] at h
    obtain ⟨zs, hz, rfl⟩ := h
    rw [textsD_at hz]; rfl
theorem AtsL.strs {ys : List Str} (h : AtsL cl K M xs (ys.map .str)) : xs = ys.map .str := by
  apply List.ext_getElem?
  intro i
  rw [List.getElem?_map]
  cases e : ys[i]? with
  | none =>
    rw [List.getElem?_eq_none_iff] at e
    rw [List.getElem?_eq_none (by rw [h.1]; simpa using e)]; rfl
  | some y =>
    obtain ⟨v, hv, hat⟩ := h.at (i := i) (d := .str y) (by rw [List.getElem?_map, e]; rfl)
    obtain rfl := Bor.str (.at hat) (H := M)
    rw [hv]; rfl
theorem bm_join : BmS cl K "str" isStr joinF (rJoin K) where
  ty := str_ty
  op M H v d vs ds z Q sm h hl hat e q := by
    unfold joinF at e
    split at e
    · rename_i a x
      split at e
      · rename_i l hll
        split at e
        · rename_i ys hy
          split at e
          · rename_i hsz
            cases e
            obtain ⟨w, rfl, hw⟩ := one_of hl hat
            obtain rfl := Bor.str (.at h) (H := H)
            obtain ⟨p, xs, rfl, p1, p2⟩ := (Bor.at hw (H := H)).seq sm hll
            rw [textsD_at hy] at p2
            rw [p2.strs] at p1
            exact ⟨a, p, ys, rfl, rfl, p1, hsz, q _ _ (.old (.str _))⟩
          · cases e
        · cases e
      · cases e
    · cases e
theorem bm_find : BmS cl K "str" isStr findF (fun x xs H Q => (∃ a b, x = .str a ∧ xs = [.str b] ∧ Q (.int (Txt.find a b)) H) ∨ ∃ (a b : Str) (i : Int), x = .str a ∧ xs = [.str b, .int i] ∧ Q (.int (Txt.find3 a b i)) H) where
  ty := str_ty
  op M H v d vs ds z Q sm h hl hat e q := by
    unfold findF at e
    split at e
    · cases e
      obtain ⟨w, rfl, hw⟩ := one_of hl hat
      obtain rfl := Bor.str (.at h) (H := H)
      obtain rfl := Bor.str (.at hw) (H := H)
      exact .inl ⟨_, _, rfl, rfl, q _ _ (.old (.int _))⟩
    · cases e
      obtain ⟨w, u, rfl, hw, hu⟩ := two_of hl hat
      obtain rfl := Bor.str (.at h) (H := H)
      obtain rfl := Bor.str (.at hw) (H := H)
      obtain rfl := Bor.int (.at hu) (H := H)
      exact .inr ⟨_, _, _, rfl, rfl, q _ _ (.old (.int _))⟩
    · cases e
theorem mt_findA {X : Cx} : MtR X "str.find" (fun x xs H Q => (∃ a b, x = .str a ∧ xs = [.str b] ∧ Q (.int (Txt.find a b)) H) ∨ ∃ (a b : Str) (i : Int), x = .str a ∧ xs = [.str b, .int i] ∧ Q (.int (Txt.find3 a b i)) H) := by
  intro pins s σ H x xs v us Q I rx rxs h
  rcases h with h | h
  · exact mt_find pins s σ H x xs v us Q I rx rxs h
  · exact mt_find3 pins s σ H x xs v us Q I rx rxs h
theorem bm_split : BmS cl K "str" isStr splitF (fun x xs H Q => ∃ a b, x = .str a ∧ xs = [.str b] ∧ (b.length == 0) = false ∧ a.length + 2 ≤ sizeLine ∧ rNewStrs (Txt.split a b) H Q) where
  ty := str_ty
  op M H v d vs ds z Q sm h hl hat e q := by
    unfold splitF at e
    split at e
    · split at e
      · rename_i hc
        cases e
        obtain ⟨w, rfl, hw⟩ := one_of hl hat
        obtain rfl := Bor.str (.at h) (H := H)
        obtain rfl := Bor.str (.at hw) (H := H)
        exact ⟨_, _, rfl, rfl, hc.1, line_of hc.2, fun p n => q _ _ (.new n (.lst (by simp) fun i v d e1 e2 => by
          rw [List.getElem?_map] at e1 e2
          simp only [Option.map_eq_some_iff] at e1 e2
          obtain ⟨x, hx, rfl⟩ := e1
          obtain ⟨y, hy, rfl⟩ := e2
          rw [hx] at hy; cases hy; exact .str _))⟩
      · cases e
    · cases e
theorem bm_starts : BmS cl K "str" isStr startsF (fun x xs H Q => ∃ a b, x = .str a ∧ xs = [.str b] ∧ Q (.bl (Txt.startswith a b)) H) where
  ty := str_ty
  op M H v d vs ds z Q sm h hl hat e q := by
    unfold startsF at e
    split at e
    · cases e
      obtain ⟨w, rfl, hw⟩ := one_of hl hat
      obtain rfl := Bor.str (.at h) (H := H)
      obtain rfl := Bor.str (.at hw) (H := H)
      exact ⟨_, _, rfl, rfl, q _ _ (.old (.bl _))⟩
    · cases e
theorem bm_rstrip : BmS cl K "str" isStr rstripF (fun x xs H Q => ∃ a b, x = .str a ∧ xs = [.str b] ∧ a.length ≤ sizeLine ∧ Q (.str (Txt.rstripChars a b)) H) where
  ty := str_ty
  op M H v d vs ds z Q sm h hl hat e q := by
    unfold rstripF at e
    split at e
    · split at e
      · rename_i hc
        cases e
        obtain ⟨w, rfl, hw⟩ := one_of hl hat
        obtain rfl := Bor.str (.at h) (H := H)
        obtain rfl := Bor.str (.at hw) (H := H)
        exact ⟨_, _, rfl, rfl, line_of hc, q _ _ (.old (.str _))⟩
      · cases e
    · cases e
theorem os_str : OpS cl K strD (fun xs H Q => ∃ i, xs = [.int i] ∧ i.natAbs.log2 < 1920 ∧ Q (.str (toString i)) H) := fun M H vs ds z Q sm hb e q => by
  unfold strD at e
  split at e
  · split at e
    · rename_i hc
      cases e
      obtain ⟨v, rfl, h⟩ := hb.one
      exact ⟨_, by rw [h.int], hc, q _ _ (.old (.str _))⟩
    · cases e
  · cases e
theorem os_ord : OpS cl K ordD (fun xs H Q => ∃ x, xs = [.str x] ∧ x.length = 1 ∧ Q (.int (x.cps.getD 0 0 : Nat)) H) := fun M H vs ds z Q sm hb e q => by
  unfold ordD at e
  split at e
  · split at e
    · rename_i hc
      cases e
      obtain ⟨v, rfl, h⟩ := hb.one
      exact ⟨_, by rw [h.str], hc, q _ _ (.old (.int _))⟩
    · cases e
  · cases e
theorem on_sorted : OpN cl K (.ls .fz) sortedD (rSortedI K) := fun M H vs ds z Q sm hb e q => by
  unfold sortedD at e
  split at e
  · split at e
    · rename_i l hll
      simp only [Option.map_eq_some_iff] at e
      obtain ⟨ns, hn, rfl⟩ := e
      obtain ⟨v, rfl, h⟩ := hb.one
      obtain ⟨a, xs, rfl, a1, a2⟩ := h.lstsA sm hll
      rw [intsD_at hn] at a2
      rw [a2.ints] at a1
      refine ⟨a, ns, rfl, a1, fun ns' p hp hs n => ?_⟩
      rw [sorted_one (hp.trans (sortI_perm ns).symm) hs (sortI_sorted ns)]
      exact q p _ n rfl (NewO.lstA (ats_ints _))
    · cases e
  · cases e
end
/-! ### xs[i], by values -/
theorem get_listK {X : Cx} (K : PySem.W.Frag) (eK : X.K = K := by rfl) : PGet X (rIxL K) := by
  subst eK
  intro pins s σ H x y v u Q I rx ry h
  · obtain ⟨p, xs, i, z, rfl, rfl, hq, he, q⟩ := h
    cases rx
    obtain ⟨t, rfl⟩ := ry
    obtain ⟨its, r, pl, hz⟩ := I.list hq
    obtain ⟨j, h1, h2, h3, h4, h5⟩ := atI_get he
    obtain ⟨w, ew, rw'⟩ := r.get h2
    have hl := r.length
    have hn := line63
    have fin : EP X pins σ Q w s := ⟨z, H, I, rw', q⟩
    by_cases h0 : 0 ≤ i
    · have hj : i.toNat = j := by
        rw [seqIndex_of h0 h5] at h1
        exact Option.some.inj h1
      exact wpAny_getItem_list pl.isList h0 (by omega) (by rw [hj]; simpa using ew) fin
    · have hj : (i + (its.toArray.size : Int)).toNat = j := by
        rw [seqIndex_neg (by omega) h4] at h1
        rw [List.size_toArray, ← hl]
        exact Option.some.inj h1
      exact wpAny_getItem_list_neg pl.isList (by omega) (by rw [List.size_toArray] <;> omega) (by omega) (by rw [hj]; simpa using ew) fin
/-! ### a look at what is held: nothing that stands is changed, and nothing of it stays -/
def cKeep (c : EM Bool) : EM Bool := fun ρ => match c ρ with
  | .ok b _ => .ok b ρ
  | .ex e ρ' => .ex e ρ'
  | .stuck => .stuck
def eKeep (e : EM Dt) : EM Dt := fun ρ => match e ρ with
  | .ok d _ => if flatB d = true then .ok d ρ else .stuck
  | .ex e ρ' => .ex e ρ'
  | .stuck => .stuck
section
variable {cl : Str → Option Addr} {K : PySem.W.Frag} {c : Fx} {F : FP} {q : Bool} {B : Addr → Prop} {Ai : Nat → Addr → Prop} {ss ss0 : Ss} {ρ ρ' : Env} {σ : L2.St} {M H H' : Hp} {v : V} {d : Dt}
  {te : TE} {tt : TT} {e : EM Dt} {c1 : EM Bool}
theorem Rep.same (R : Rep cl K F B Ai ss ρ σ H) (s : Same H H') : Rep cl K F B Ai ss ρ σ H' ∧ Ext q B Ai H Ai H' := by
  have ek : ∀ a, H a ≠ none → H' a = H a := fun a h => by
    cases e : H a with
    | none => exact absurd e h
    | some o => exact s a o e
  have x : Ext q B Ai H Ai H' := ⟨fun a h => ek a (R.hb a h), fun a o _ na e => ⟨na, s a o e⟩, fun _ => s⟩
  refine ⟨⟨R.len, fun i d e => ?_, R.dj, R.nb, fun i a h => by rw [ek a (R.al i a h)]; exact R.al i a h, fun a h => by rw [ek a (R.hb a h)]; exact R.hb a h, F.mono _ _ x.same R.fx, R.pin⟩, x⟩
  obtain ⟨v, h1, h2⟩ := R.row i d e
  exact ⟨v, h1, h2.mono x.same fun a ha => ek a (R.al i a ha)⟩
theorem st_keep (h : ST cl K c.quiet ss0 tt c1) (l : leS ss0 ss = true := by rfl) : ST cl K c ss tt (cKeep c1) := fun B Ai ρ σ H Q R p => by
  obtain ⟨Ai0, x0, R0, _⟩ := R.less (q := c.q) l
  refine h B Ai0 ρ σ H Q R0 ?_
  unfold cKeep at p
  cases er : c1 ρ with
  | stuck => rw [er] at p; exact p
  | ex x ρ1 => rw [er] at p; exact fun cv dx σ' Ai' H' e R k h => p cv dx σ' Ai' H' (x0.trans (Ext.to e)) R k h
  | ok b ρ1 =>
    rw [er] at p
    intro Ai' H' x R'
    obtain ⟨R2, x2⟩ := R.same (q := c.q) (x.qt rfl)
    exact p Ai H' x2 R2
theorem flat_own {s0 : Sh} {M' : Hp} (h : At cl K M v d) (hd : flatB d = true) : At cl K M' v d := by
  cases h with
  | non => exact .non
  | bl b => exact .bl b
  | int b => exact .int b
  | str b => exact .str b
  | _ => cases hd
theorem se_keep (h : SE cl K c.quiet ss0 .fz te e) (l : leS ss0 ss = true := by rfl) : SE cl K c ss .fz te (eKeep e) := fun B Ai ρ σ H Q R p => by
  obtain ⟨Ai0, x0, R0, _⟩ := R.less (q := c.q) l
  refine h B Ai0 ρ σ H Q R0 ?_
  unfold eKeep at p
  cases er : e ρ with
  | stuck => rw [er] at p; exact p
  | ex x ρ1 => rw [er] at p; exact fun cv dx σ' Ai' H' e R k h => p cv dx σ' Ai' H' (x0.trans (Ext.to e)) R k h
  | ok b ρ1 =>
    rw [er] at p
    intro v Ai' H' x R' o
    simp only at p
    split at p
    · rename_i hf
      obtain ⟨R2, x2⟩ := R.same (q := c.q) (x.qt rfl)
      obtain ⟨Ai3, x3, R3, o3⟩ := R2.res (.old (flat_own (s0 := .fz) o.fzAt.1 hf))
      exact p v Ai3 H' (x2.trans x3) R3 o3
    · exact p.elim
end
/-! ### index of a tuple of the top -/
def isTup : Dt → Bool | .tup _ => true | _ => false
def indexTF (d : Dt) (ds : List Dt) : Option Dt := match d with | .tup l => indexL l ds | _ => none
section
variable {cl : Str → Option Addr} {K : PySem.W.Frag} {c : Fx} {ss : Ss} {d : Dt} {as : List AE} {tA : TA} {a : Addr}
theorem mt_indexTK {X : Cx} (K : PySem.W.Frag) (eK : X.K = K := by rfl) : MtR X "tuple.index" (rIndexT K) := by subst eK; exact mt_indexT
theorem se_indexC {l : List Dt} (hq : ∀ M, At cl K M (.ref a) (.tup l)) (hty : ∃ o, K.lookup a = some o ∧ o.cls = .type "tuple" ∧ o.dict = none) (ha : SA cl K c ss tA as) (hv : valAs as = true := by rfl) :
    SE cl K c ss .fz (tBM K "tuple" (rIndexT K) (tC (.ref a)) tA) (eBm isTup indexTF (eC (.tup l)) as) := fun B Ai ρ σ H Q R p => by
  have p : EPost cl K c B Ai ss σ H .fz Q ((eArgs as ρ).bind fun ds ρ2 => (match indexTF (.tup l) ds with | some z => .ok z ρ2 | none => .stuck)) := p
  refine ⟨.inr (.inl ⟨rfl, hty⟩), ?_⟩
  refine ha.use R (fun ds ρ2 e2 vs Ai2 H2 x2 R2 oa => ?_) (fun x ρ2 e2 => by simp only [e2] at p; exact p) fun e2 => by simp only [e2] at p; exact p
  rw [e2] at p
  replace p : EPost cl K c B Ai ss σ H .fz Q (match indexTF (.tup l) ds with | some z => .ok z ρ2 | none => .stuck) := p
  obtain ⟨hl, hat⟩ := oa.ats hv
  cases ez : indexTF (.tup l) ds with
  | none => rw [ez] at p; exact p.elim
  | some z =>
    rw [ez] at p
    have h := hq (MH B Ai2 H2)
    have ez : indexL l ds = some z := ez
    unfold indexL at ez
    split at ez
    · rename_i y
      split at ez
      · rename_i hf
        simp only [Option.map_eq_some_iff] at ez
        obtain ⟨j, hj, rfl⟩ := ez
        obtain ⟨x, rfl, hx⟩ := one_of hl hat
        obtain ⟨a', xs, e, a1, a2⟩ := (Bor.at h (H := H2)).tupA mask_same
        cases e
        obtain ⟨i1, i2, w, i3, i4, i5⟩ := index_at hx hf.1 a2 hf.2 hj
        obtain ⟨Ai3, x3, R3, o3⟩ := R2.res (.old (.int (j : Nat)))
        exact ⟨a, xs, x, j, w, rfl, rfl, a1, i1, i2, i3, i4, i5, p _ Ai3 H2 (x2.trans x3) R3 o3⟩
      · cases ez
    · cases ez
end
/-! x in l, l.index(x) where items are data of any depth; a text in a text -/
section
variable {X : Cx} {K : PySem.W.Frag}
theorem room65 {k : Nat} {A : Around} (r : Room k A) : A.units + 65 < cLine := by have := r.un; omega
theorem op_inDK (K : PySem.W.Frag) (hu : X.A.units + 65 < cLine) (eK : X.K = K := by rfl) : OpR X (compareOp .In) (rInD K) := by subst eK; exact op_inD hu
theorem op_notInDK (K : PySem.W.Frag) (hu : X.A.units + 65 < cLine) (eK : X.K = K := by rfl) : OpR X (compareOp .NotIn) (rNotInD K) := by subst eK; exact op_notInD hu
theorem mt_indexDK (K : PySem.W.Frag) (hu : X.A.units + 65 < cLine) (eK : X.K = K := by rfl) : MtR X "list.index" (rIndexD K) := by subst eK; exact mt_indexD hu
end
/-- data that can be laid flat, and is not too deep -/
def toQ (d : Dt) : Option PyData := match toP d with
  | some p => if SeqAt.shaped p then some p else none
  | none => none
def toL (d : Dt) : Option (List PyData) := match toQ d with
  | some (.list ps) => some ps
  | _ => none
theorem toQ_some {d : Dt} {p : PyData} (e : toQ d = some p) : toP d = some p ∧ SeqAt.shaped p = true := by
  unfold toQ at e
  split at e
  · split at e
    · cases e; exact ⟨by assumption, by assumption⟩
    · cases e
  · cases e
theorem toL_some {d : Dt} {ps : List PyData} (e : toL d = some ps) : toP d = some (.list ps) ∧ SeqAt.shaped (.list ps) = true := by
  unfold toL at e
  split at e
  · cases e; exact toQ_some (by assumption)
  · cases e
def inPD : List Dt → Option Dt
  | [x, y] => (match toQ x, toL y with | some p, some ps => some (.bl (ps.any fun z => PyData.eqv z p)) | _, _ => none)
  | _ => none
def notInPD : List Dt → Option Dt
  | [x, y] => (match toQ x, toL y with | some p, some ps => some (.bl (!ps.any fun z => PyData.eqv z p)) | _, _ => none)
  | _ => none
def inSD : List Dt → Option Dt
  | [.str i, .str j] => some (.bl (!(Builtin.Str.occurrences j i 0 j.length 1).isEmpty))
  | _ => none
def notInSD : List Dt → Option Dt
  | [.str i, .str j] => some (.bl (!(!(Builtin.Str.occurrences j i 0 j.length 1).isEmpty)))
  | _ => none
/-- the first place of a datum -/
def firstP (p : PyData) : List PyData → Option Nat
  | [] => none
  | z :: r => if PyData.eqv z p then some 0 else (firstP p r).map (· + 1)
theorem firstP_some {p : PyData} : ∀ {l : List PyData} {j : Nat}, firstP p l = some j → (∃ z, l[j]? = some z ∧ PyData.eqv z p = true) ∧ ∀ (m : Nat) (z' : PyData), m < j → l[m]? = some z' → PyData.eqv z' p = false
  | [], j, e => by cases e
  | z :: r, j, e => by
    unfold firstP at e
    split at e
    · cases e; exact ⟨⟨z, rfl, by assumption⟩, fun m z' h => absurd h (Nat.not_lt_zero _)⟩
    · rename_i hz
      simp only [Option.map_eq_some_iff] at e
      obtain ⟨i, hi, rfl⟩ := e
      obtain ⟨h1, h2⟩ := firstP_some hi
      refine ⟨h1, fun m z' hm hz' => ?_⟩
      cases m with
      | zero => cases hz'; exact Bool.eq_false_iff.mpr hz
      | succ m => exact h2 m z' (by omega) hz'
def indexPF (d : Dt) (ds : List Dt) : Option Dt := match toL d, ds with
  | some ps, [x] => (match toQ x with | some p => (firstP p ps).map fun j => .int (j : Nat) | none => none)
  | _, _ => none
section
variable {cl : Str → Option Addr} {K : PySem.W.Frag} {c : Fx} {M H : Hp} {v : V} {d : Dt} {xs : List V} {l : List Dt}
theorem os_inP : OpS cl K inPD (k2 (rInD K)) := fun M H vs ds z Q sm hb e q => by
  unfold inPD at e
  split at e
  · split at e
    · rename_i p ps h1 h2
      cases e
      obtain ⟨v, w, rfl, b1, b2⟩ := hb.two
      obtain ⟨p1, p2⟩ := toQ_some h1
      obtain ⟨r1, r2⟩ := toL_some h2
      exact ⟨p, ps, b1.dp sm p1, b2.dp sm r1, p2, r2, q _ _ (.old (.bl _))⟩
    · cases e
  · cases e
theorem os_notInP : OpS cl K notInPD (k2 (rNotInD K)) := fun M H vs ds z Q sm hb e q => by
  unfold notInPD at e
  split at e
  · split at e
    · rename_i p ps h1 h2
      cases e
      obtain ⟨v, w, rfl, b1, b2⟩ := hb.two
      obtain ⟨p1, p2⟩ := toQ_some h1
      obtain ⟨r1, r2⟩ := toL_some h2
      exact ⟨p, ps, b1.dp sm p1, b2.dp sm r1, p2, r2, q _ _ (.old (.bl _))⟩
    · cases e
  · cases e
theorem os_inS : OpS cl K inSD (k2 (fun x y H Q => ∃ i j, x = .str i ∧ y = .str j ∧ Q (.bl (!(Builtin.Str.occurrences j i 0 j.length 1).isEmpty)) H)) := fun M H vs ds z Q sm hb e q => by
  unfold inSD at e
  split at e
  · cases e
    obtain ⟨v, w, rfl, b1, b2⟩ := hb.two
    exact ⟨_, _, b1.str, b2.str, q _ _ (.old (.bl _))⟩
  · cases e
theorem os_notInS : OpS cl K notInSD (k2 (fun x y H Q => ∃ i j, x = .str i ∧ y = .str j ∧ Q (.bl (!(!(Builtin.Str.occurrences j i 0 j.length 1).isEmpty))) H)) := fun M H vs ds z Q sm hb e q => by
  unfold notInSD at e
  split at e
  · cases e
    obtain ⟨v, w, rfl, b1, b2⟩ := hb.two
    exact ⟨_, _, b1.str, b2.str, q _ _ (.old (.bl _))⟩
  · cases e
theorem bm_indexP : BmS cl K "list" isLst indexPF (rIndexD K) where
  ty M H v d sm h ok := bm_index.ty M H v d sm h ok
  op M H v d vs ds z Q sm h hl hat e q := by
    unfold indexPF at e
    split at e
    · rename_i ps x hps
      split at e
      · rename_i p hp
        simp only [Option.map_eq_some_iff] at e
        obtain ⟨j, hj, rfl⟩ := e
        obtain ⟨w, rfl, hx⟩ := one_of hl hat
        obtain ⟨p1, p2⟩ := toQ_some hp
        obtain ⟨r1, r2⟩ := toL_some hps
        obtain ⟨⟨z, z1, z2⟩, z3⟩ := firstP_some hj
        have hd := (Bor.at h (H := H)).dp sm r1
        cases hd with
        | lst ha hb => exact ⟨_, _, p, ps, j, z, rfl, rfl, .lst ha hb, (Bor.at hx (H := H)).dp sm p1, r2, p2, z1, z2, z3, q _ _ (.old (.int _))⟩
      · cases e
    · cases e
end
/-! calls with keywords; keyword-only defaults -/
def tKw (n m : Nat) (t tk : TA) : TA := fun σ H Q => t σ H fun vs H1 => tk σ H1 fun zs H2 => (vs.length = n ∧ zs.length = m) ∧ Q (vs ++ zs) H2
def BindsD (K : PySem.W.Frag) (fd : FuncData) (ps : List Str) (dvs : List V) : Prop := ∃ ds, Vals dvs ds ∧ Binds K fd ps ds
section
variable {K : PySem.W.Frag} {D : Addr} {fd : FuncData} {ps ks : List Str} {kws : List (Str × Value)} {n : Nat} {dvs : List V}
theorem all_cons {q : Str × Value} (h : PySem.W.nsIn K D q.1 = some (some q.2)) (r : ∀ q ∈ kws, PySem.W.nsIn K D q.1 = some (some q.2)) : ∀ p ∈ q :: kws, PySem.W.nsIn K D p.1 = some (some p.2) := fun p hp => by
  rcases List.mem_cons.mp hp with rfl | hp
  · exact h
  · exact r p hp
theorem bindsD_mk (hn : n + kws.length = ps.length) (hks : ∀ q ∈ kws, PySem.W.nsIn K D q.1 = some (some q.2)) (hv : Vals dvs (kws.map (·.2))) (h : ∀ us : List Value, us.length = n → KwChain D kws (bindArgs fd ⟨us, []⟩) (ps.zip (us ++ kws.map (·.2)))) : BindsD K fd ps dvs :=
  ⟨_, hv, fun s us X hl => BindsTo.of_looks fun M => KwChain.looks X hks (h us (by simp at hl; omega))⟩
theorem kbn_mk (h : ∀ us ws : List Value, us.length = n → ws.length = ks.length → bindArgs fd ⟨us, ks.zip ws⟩ = pure (ps.zip (us ++ ws))) : KBn K fd ps n ks (fun us ws => us ++ ws) (fun vs zs => vs ++ zs) :=
  ⟨fun s us ws X l1 l2 => .of_eq (h us ws l1 l2), fun a b => a.append b⟩
end
section
variable {X : Cx} {CX : CXT} {k n m : Nat} {f C : Addr} {fd : FuncData} {ps ks : List Str} {sp : Sp} {E : L2.St → XK} {x : Str} {p pos : Pos} {e : Expr} {es : List Expr} {kws : List Keyword} {t tk : TA} {dvs : List V}
theorem pe_callDX (F : FnOk X.prog X.w X.K X.mg X.base CX k f fd ps sp) (hr : Room k X.A) (hg : Gl X x) (hm : X.mg x = some (.ref f)) (hk : PySem.W.keepIn X.K (.ref f) = true) (hb : BindsD X.K fd ps dvs) (hx : ∀ σ, PassesAt CX X σ (E σ))
    (ha : PA X (e :: es) t) (hdb : (x == ("__debug__" : Str)) = false := by decide) (he : starEach (e :: es) X.env = (false, eval e X.env) :: starEach es X.env := by rfl) (hpl : (backTo pos (starEach es X.env)).any (·.1) = false := by rfl) :
    PE X (.Call (.Name x p) (e :: es) [] pos) (tCallSD sp dvs E t) := by
  obtain ⟨ds, hd, hb⟩ := hb
  exact pe_callSD F hr hg hm hk hb hd hx ha hdb he hpl
theorem pe_makeDX (M : Mk X.K C f) (F : FnOk X.prog X.w X.K X.mg X.base CX k f fd ps sp) (hr : Room (k + 1) X.A) (hg : Gl X x) (hm : X.mg x = some (.ref C)) (hb : BindsD X.K fd ps dvs) (hx : ∀ σ, PassesAt CX X σ (E σ))
    (ha : PA X (e :: es) t) (hdb : (x == ("__debug__" : Str)) = false := by decide) (he : starEach (e :: es) X.env = (false, eval e X.env) :: starEach es X.env := by rfl) (hpl : (backTo pos (starEach es X.env)).any (·.1) = false := by rfl) :
    PE X (.Call (.Name x p) (e :: es) [] pos) (tMakeS C sp dvs E t) := by
  obtain ⟨ds, hd, hb⟩ := hb
  exact pe_makeS M F hr hg hm hb hd hx ha hdb he hpl
theorem run_fnKS {E : XK} {pins : List (Addr × Obj)} {σ : L2.St} {H : Hp} {s : Shared} {Q : VK} {us ws : List Value} {vs zs : List V} (F : FnOk X.prog X.w X.K X.mg X.base CX k f fd ps sp) (hr : Room k X.A) (hb : KBn X.K fd ps n ks (fun us ws => us ++ ws) (fun vs zs => vs ++ zs)) (hx : PassesAt CX X σ E)
    (I : Inv X pins σ H s) (r : Vals vs us) (rz : Vals zs ws) (l1 : vs.length = n) (l2 : zs.length = ks.length) (h : sp (vs ++ zs) H Q E) : wpAny (model X.prog X.w) X.A (call (.ref f) us (ks.zip ws)) (EP X pins σ Q) X.xe s := by
  have r2 := hb.rel r rz
  refine wpAny_call (codeAny_mono (F.run X.A X.stack s H ⟨us, ks.zip ws⟩ (us ++ ws) (vs ++ zs) Q E hr I.env0 (hb.to s us ws I.kIn (r.length.symm.trans l1) (rz.length.symm.trans l2)) r2 h) fun r s' hq => ?_)
  cases r with
  | error e => exact hx pins H s e s' I hq
  | ok fl =>
    cases fl with
    | ret u => exact I.after hq
    | next => exact False.elim hq
    | brk => exact False.elim hq
    | cont => exact False.elim hq
/-- f(e, .., k = v, ..): all keyword-only parameters are written, in their order -/
theorem pe_callKS (F : FnOk X.prog X.w X.K X.mg X.base CX k f fd ps sp) (hr : Room k X.A) (hg : Gl X x) (hm : X.mg x = some (.ref f)) (hk : PySem.W.keepIn X.K (.ref f) = true) (hb : KBn X.K fd ps n ks (fun us ws => us ++ ws) (fun vs zs => vs ++ zs)) (hx : ∀ σ, PassesAt CX X σ (E σ))
    (ha : PA X (e :: es) t) (hkw : PK X kws tk) (hn : ks.length = m := by rfl) (hall : (backToKw pos (keywordEach kws X.env)).all (·.1.isSome) = true := by rfl) (hks : (backToKw pos (keywordEach kws X.env)).filterMap (·.1) = ks := by rfl)
    (hdb : (x == ("__debug__" : Str)) = false := by decide) (he : starEach (e :: es) X.env = (false, eval e X.env) :: starEach es X.env := by rfl)
    (hpl : ((backTo pos (starEach (e :: es) X.env)).any (·.1) || (backToKw pos (keywordEach kws X.env)).any (·.1.isNone)) = false := by rfl) :
    PE X (.Call (.Name x p) (e :: es) kws pos) (tCallSD sp [] E (tKw n m t tk)) := by
  refine ⟨fun pins s σ H Q I h => ?_⟩
  refine wpAny_Call_Name_kw (ld_glob I hg hm ?_ hdb)
  refine PySem.W.callWith_KW (h₀ := X.base) I.ok.mod.kin hk hall (thn (ha.run pos pins s σ H _ I h) fun us s1 ⟨vs, H1, I1, r, q⟩ => ?_) hpl he
  refine thn (hkw.run pos pins s1 σ H1 _ I1 q) fun ws s2 ⟨zs, H2, I2, rz, ⟨l1, l2⟩, q2⟩ => ⟨I2.kIn, ?_⟩
  replace q2 : sp ((vs ++ zs) ++ []) H2 Q (E σ) := q2
  rw [List.append_nil] at q2
  rw [hks]
  exact run_fnKS F hr hb (hx σ) I2 r rz l1 (l2.trans hn.symm) q2
theorem run_makeKS {E : XK} {pins : List (Addr × Obj)} {σ : L2.St} {H : Hp} {s : Shared} {Q : VK} {us ws : List Value} {vs zs : List V} (M : Mk X.K C f) (F : FnOk X.prog X.w X.K X.mg X.base CX k f fd ps sp) (hr : Room (k + 1) X.A) (hb : KBn X.K fd ps (n + 1) ks (fun us ws => us ++ ws) (fun vs zs => vs ++ zs)) (hx : PassesAt CX X σ E)
    (I : Inv X pins σ H s) (r : Vals vs us) (rz : Vals zs ws) (l1 : vs.length = n) (l2 : zs.length = ks.length)
    (h : ∀ x dx, H x = none → H dx = none → dx ≠ x → sp (.ref x :: (vs ++ zs)) (upd (upd H dx (.own x)) x (.ins C dx [])) (fun v H2 => v = .non ∧ Q (.ref x) H2) E) :
    wpAny (model X.prog X.w) X.A (call (.ref C) us (ks.zip ws)) (EP X pins σ Q) X.xe s := by
  have hq := h (s.heap.objs.size + 1) s.heap.objs.size (I.hok.fresh (Nat.le_succ _)) (I.hok.fresh (Nat.le_refl _)) (Nat.ne_of_lt (Nat.lt_succ_self _))
  have I2 := Inv.made (C := C) I
  have r1 : Vals (V.ref (s.heap.objs.size + 1) :: vs) (Value.ref (s.heap.objs.size + 1) :: us) := .cons rfl r
  have r2 := hb.rel r1 rz
  have n1 : (Value.ref (s.heap.objs.size + 1) :: us).length = n + 1 := by
    rw [List.length_cons, ← r.length, l1]
  refine wpAny_call (make_map (f := f) I.kIn M.makes M.init (beq_iff_eq.mp M.fn) (codeAny_mono (F.run _ X.stack _ _ ⟨Value.ref (s.heap.objs.size + 1) :: us, ks.zip ws⟩ ((Value.ref (s.heap.objs.size + 1) :: us) ++ ws) _ _ E (hr.make C us (ks.zip ws))
    (I2.env0.make C us (ks.zip ws)) (hb.to _ (Value.ref (s.heap.objs.size + 1) :: us) ws I2.kIn n1 (rz.length.symm.trans l2)) r2 hq) fun r s' hq' => ?_))
  cases r with
  | error e => exact hx pins _ _ e s' I2 hq'
  | ok fl =>
    cases fl with
    | ret u =>
      obtain ⟨v, H', I3, rv, ev, q3⟩ := I2.after hq'
      subst ev
      exact ⟨rv, ⟨V.ref (s.heap.objs.size + 1), H', I3, rfl, q3⟩⟩
    | next => exact False.elim hq'
    | brk => exact False.elim hq'
    | cont => exact False.elim hq'
/-- C(e, .., k = v, ..): all keyword-only parameters are written, in their order -/
theorem pe_makeKS (M : Mk X.K C f) (F : FnOk X.prog X.w X.K X.mg X.base CX k f fd ps sp) (hr : Room (k + 1) X.A) (hg : Gl X x) (hm : X.mg x = some (.ref C)) (hb : KBn X.K fd ps (n + 1) ks (fun us ws => us ++ ws) (fun vs zs => vs ++ zs)) (hx : ∀ σ, PassesAt CX X σ (E σ)) (ha : PA X (e :: es) t) (hkw : PK X kws tk)
    (hn : ks.length = m := by rfl) (hall : (backToKw pos (keywordEach kws X.env)).all (·.1.isSome) = true := by rfl) (hks : (backToKw pos (keywordEach kws X.env)).filterMap (·.1) = ks := by rfl) (hdb : (x == ("__debug__" : Str)) = false := by decide)
    (he : starEach (e :: es) X.env = (false, eval e X.env) :: starEach es X.env := by rfl) (hpl : ((backTo pos (starEach (e :: es) X.env)).any (·.1) || (backToKw pos (keywordEach kws X.env)).any (·.1.isNone)) = false := by rfl) :
    PE X (.Call (.Name x p) (e :: es) kws pos) (tMakeS C sp [] E (tKw n m t tk)) := by
  refine ⟨fun pins s σ H Q I h => ?_⟩
  refine wpAny_Call_Name_kw (ld_glob I hg hm ?_ hdb)
  refine PySem.W.callWith_KW (h₀ := X.base) I.ok.mod.kin M.kp hall (thn (ha.run pos pins s σ H _ I h) fun us s1 ⟨vs, H1, I1, r, q⟩ => ?_) hpl he
  refine thn (hkw.run pos pins s1 σ H1 _ I1 q) fun ws s2 ⟨zs, H2, I2, rz, ⟨l1, l2⟩, q2⟩ => ⟨I2.kIn, ?_⟩
  rw [hks]
  refine run_makeKS M F hr hb (hx σ) I2 r rz l1 (l2.trans hn.symm) fun x dx a b c => ?_
  have := q2 x dx a b c
  rwa [List.append_nil] at this
end
section
variable {cl : Str → Option Addr} {K : PySem.W.Frag} {c : Fx} {ss : Ss} {as : List AE} {tA t tk : TA} {n m : Nat}
theorem sa_kw (ha : SA cl K c ss tA as) (heq : ∀ σ H Q, tA σ H (fun ws H2 => ((ws.take n).length = n ∧ (ws.drop n).length = m) ∧ Q ws H2) = tKw n m t tk σ H Q := by intros; rfl) (hl : as.length = n + m := by rfl) : SA cl K c ss (tKw n m t tk) as := fun B Ai ρ σ H Q R p => by
  rw [← heq]
  refine ha.use (Q := fun ws H2 => ((ws.take n).length = n ∧ (ws.drop n).length = m) ∧ Q ws H2) R (fun ds ρ1 e1 vs Ai1 H1 x1 R1 ok => ?_) (fun x ρ1 e1 => by rw [e1] at p; exact p) fun e1 => by rw [e1] at p; exact p
  rw [e1] at p
  obtain ⟨l1, l2⟩ := ok.len
  exact ⟨⟨by rw [List.length_take]; omega, by rw [List.length_drop]; omega⟩, p vs Ai1 H1 x1 R1 ok⟩
end
/-! a text, some times -/
instance {x : Str} {n : Int} : Decidable (MulOk x n) := by unfold MulOk; infer_instance
theorem op_mulS {X : Cx} : OpR X (binaryOp .Mult) (fun x y H Q => ∃ i n, x = .str i ∧ y = .int n ∧ MulOk i n ∧ Q (.str (Txt.mul i n)) H) := by
  intro pins s σ H x y v u Q I rx ry h
  obtain ⟨i, n, rfl, rfl, hz, q⟩ := h
  obtain ⟨t, rfl⟩ := rx
  obtain ⟨t', rfl⟩ := ry
  exact SB.mul hz (fun t' k => ⟨.str _, H, I.tok _, ⟨_, rfl⟩, q⟩)
def mulSD : List Dt → Option Dt
  | [.str i, .int n] => if MulOk i n then some (.str (Txt.mul i n)) else none
  | _ => none
theorem os_mulS {cl : Str → Option Addr} {K : PySem.W.Frag} : OpS cl K mulSD (k2 (fun x y H Q => ∃ i n, x = .str i ∧ y = .int n ∧ MulOk i n ∧ Q (.str (Txt.mul i n)) H)) := fun M H vs ds z Q sm hb e q => by
  unfold mulSD at e
  split at e
  · split at e
    · rename_i hz
      cases e
      obtain ⟨v, w, rfl, b1, b2⟩ := hb.two
      exact ⟨_, _, b1.str, b2.int, hz, q _ _ (.old (.str _))⟩
    · cases e
  · cases e
/-! ### len(x), x of an own class with its own __len__ -/
section
variable {X : Cx} {CX : CXT} {C f : Addr} {fd : FuncData} {ps : List Str} {sp : Sp} {k : Nat}
def rLenO (C : Addr) (sp : Sp) : List V → Hp → VK → Prop := fun xs H Q => ∃ a dx fs, xs = [.ref a] ∧ H a = some (.ins C dx fs) ∧ sp [.ref a] H (fun z H' => ∃ n : Int, z = .int n ∧ 0 ≤ n ∧ n < 9223372036854775808 ∧ Q (.int n) H') (fun _ _ _ => False)
theorem lenO_run {A : Around} {pins : List (Addr × Obj)} {s : Shared} {σ : L2.St} {H : Hp} {a : Addr} {Q : VK} (F : FnOk X.prog X.w X.K X.mg X.base CX k f fd ps sp) (hr : Room k A) (hA : A.frames = X.A.frames) (hb : Binds X.K fd ps []) (hx : PassesAt CX X σ (fun _ _ _ => False))
    (I : Inv X pins σ H s) (q : sp [.ref a] H Q (fun _ _ _ => False)) : wpAny (model X.prog X.w) A (call (.ref f) [.ref a]) (EP X pins σ Q) X.xe s := by
  have e0 : Env0 X.prog X.w X.K X.mg X.base A X.stack s H := by
    have e := I.env0
    exact ⟨by rw [hA]; exact e.frames, e.mod, e.bs, e.bsz, e.funs, e.frf, e.hok, e.bare⟩
  have hl := F.len _ _ _ _ q
  have r2 : Vals [V.ref a] [Value.ref a] := .cons rfl .nil
  refine wpAny_call (codeAny_mono (F.run A X.stack s H ⟨[.ref a], []⟩ [.ref a] [.ref a] _ _ hr e0 (by
    have := hb s [.ref a] I.kIn (by simpa using hl)
    simpa using this) r2 q) fun r s' hq => ?_)
  cases r with
  | error e => exact hx pins H s e s' I hq
  | ok fl =>
    cases fl with
    | ret w => exact I.after hq
    | next => exact False.elim hq
    | brk => exact False.elim hq
    | cont => exact False.elim hq
theorem call_lenO (hm : Meth X.K C "__len__" f) (F : FnOk X.prog X.w X.K X.mg X.base CX k f fd ps sp) (hr : Room (k + 1) X.A) (hb : Binds X.K fd ps []) (hx : ∀ σ, PassesAt CX X σ (fun _ _ _ => False)) : CallR X (.builtin "len") (rLenO C sp) := by
  intro pins s σ H xs us Q I rv h
  obtain ⟨a, dx, fs, rfl, ha, q⟩ := h
  cases rv with
  | cons r1 r2 =>
    cases r2
    cases (show _ = Value.ref a from r1)
    obtain ⟨mA, J, _⟩ := ins_get I.hok ha
    obtain ⟨od, J, _⟩ := J.look
    obtain ⟨m, hF⟩ := I.fr
    refine PySem.W.len_K hF I.ok.mod.kin J hm.at_ hm.fn ?_
    refine wpAny_mono (lenO_run (A := X.A.in1) F hr.in1 rfl hb (hx σ) I q) (fun w s' z => ?_) fun _ _ x => x
    obtain ⟨z', H', I', rz, n, rfl, h0, h1, qz⟩ := z
    obtain ⟨t, rfl⟩ := rz
    exact ⟨⟨h0, h1⟩, .int n, H', I'.tok _, ⟨_, rfl⟩, qz⟩
end
def eLenO (cn : Str) (f : List Dt → Fq) (as : List AE) : EM Dt := fun ρ => (eArgs as ρ).bind fun ds ρ1 => match ds with
  | [.obj c1 fs] => if c1 = cn then (match f [.obj c1 fs] with | .ok (.int n) _ => if 0 ≤ n ∧ n < 9223372036854775808 then .ok (.int n) ρ1 else .stuck | _ => .stuck) else .stuck
  | _ => .stuck
section
variable {cl : Str → Option Addr} {K : PySem.W.Frag} {c : Fx} {B : Addr → Prop} {Ai : Nat → Addr → Prop} {ss ss' : Ss} {ρ ρ' : Env} {σ : L2.St} {M H : Hp} {v : V} {d : Dt}
  {ta tb te : TE} {as : List AE} {tA : TA} {C : Addr}
theorem se_lenO {gs : Sg} {cn : Str} {h : List Dt → Fq} (hC : cl cn = some C) (ha : SA cl K c ss (tCons ta tNil) as) (hv : valAs as = true := by rfl) (hk : okArgs ss gs.ps as = true := by rfl) (hko : okBack ss ss gs.po as = true := by rfl) (hkx : okBack ss ss gs.px as = true := by rfl) (hrs : gs.rs = .fz := by rfl) :
    SE cl K c ss .fz (tCB (rLenO C (spD cl K gs h)) (tCons ta tNil)) (eLenO cn h as) := fun B Ai ρ σ H Q R p => by
  show (tCons ta tNil) σ H fun vs H1 => rLenO C (spD cl K gs h) vs H1 Q
  unfold eLenO at p
  refine ha.use R (fun ds ρ1 e1 vs Ai1 H1 x1 R1 ok => ?_) (fun x ρ1 e1 => by rw [e1] at p; exact p) fun e1 => by rw [e1] at p; exact p
  simp only [e1, Er.bind] at p
  obtain ⟨hl, hat⟩ := ok.ats hv
  split at p
  · rename_i c1 fs
    split at p
    · rename_i hc
      subst hc
      obtain ⟨x, rfl⟩ : ∃ x, vs = [x] := by
        match vs, hl with
        | [x], _ => exact ⟨x, rfl⟩
      obtain ⟨a, D, dx, xs, ex, m1, d1⟩ := (hat 0 x _ rfl rfl).objI
      rw [hC] at d1
      cases d1
      subst ex
      refine ⟨a, dx, xs, rfl, mask_same _ _ m1, ?_⟩
      have r := run_call (c := { c with W := fun _ _ _ _ => False, sx := [] }) (g := gs) (f := h) (sz := ss) (ss := ss) (ss' := ss) (dvs := []) (dds := []) (Q := fun z H' => ∃ n : Int, z = .int n ∧ 0 ≤ n ∧ n < 9223372036854775808 ∧ Q (.int n) H') (W := fun _ _ _ _ => False) (fun _ => val_ix0 hv) rfl (okArgs_at hk) (okBack_at hko) (okBack_at hkx) consts_nil rfl R1 ok (by
        cases hr : h [.obj c1 fs] with
        | stuck => rw [hr] at p; exact p.elim
        | ex e outs => rw [hr] at p; exact p.elim
        | ok d outs =>
          rw [hr] at p
          cases d with
          | int n =>
            simp only at p
            split at p
            · rename_i hn
              simp only [List.append_nil, hr]
              intro v Ai' H' x R' o
              rw [hrs] at o
              obtain rfl := Bor.int (.at o.fzAt.1) (H := H')
              rw [putO_val hv] at R'
              obtain ⟨Ai2, x2, R2, o2⟩ := R'.res (.old (.int n))
              exact ⟨n, rfl, hn.1, hn.2, p _ Ai2 H' ((x1.trans x).trans x2) R2 o2⟩
            · exact p.elim
          | _ => exact p.elim)
      rw [List.append_nil] at r
      exact r
    · exact p.elim
  · exact p.elim
end
/-! ### enumerate over a tuple -/
section
open PySem.Sem (wp)
theorem enumT_new {l : Addr} {xs : Array Value} :
    Meets (Builtin.«enumerate.__new__» ⟨[.type "enumerate", .ref l], []⟩) (fun _ R s => s.heap.IsTuple l xs ∧
      R (.ok (.ret (.ref (s.heap.push { cls := .type "tuple_iterator", data := .fields #[.ref l, .int 0 0] }).objs.size)))
        { s with heap := (s.heap.push { cls := .type "tuple_iterator", data := .fields #[.ref l, .int 0 0] }).push { cls := .type "enumerate", data := .fields #[.none, .bool false, .ref s.heap.objs.size, rawInt 0, .none, .none] } }) :=
  .of_wp fun prog w A R s ⟨ht, hR⟩ => by
    obtain ⟨hp, g, d, k, os⟩ := s
    have sb := sub_enumerate
    have go : ∀ {A' : Around} {E : Value → Shared → Prop} {Q : Value → Shared → Prop}, Q (.ref hp.objs.size) ⟨hp.push { cls := .type "tuple_iterator", data := .fields #[.ref l, .int 0 0] }, g, d, k, os⟩ → wpAny (model prog w) A' (pyIter (.ref l)) Q E ⟨hp, g, d, k, os⟩ :=
      fun q => wpAny_pyIter_tuple ht q
    wp_walk using go
    refine wpAny_stack_any fun _ => wpAny_pure ?_
    split
    · rename_i cc _ _ _ _ _
      cases (cc == Value.type "enumerate") <;> (wp_walk using go; exact ⟨_, rfl, hR⟩)
    · wp_walk using go
      exact ⟨_, rfl, hR⟩
variable {prog : Program} {w : World} {A : Around} {E : Value → Shared → Prop} {s : Shared}
theorem enumT_call {l : Addr} {xs : Array Value} {Q : Value → Shared → Prop} (ht : s.heap.IsTuple l xs)
    (h : ∀ h', IsEnum h' (s.heap.objs.size + 1) s.heap.objs.size 0 .none → h'.IsTupleIter s.heap.objs.size l 0 →
      (∀ b o, s.heap.get? b = some o → h'.get? b = some o) → Q (.ref (s.heap.objs.size + 1)) { s with heap := h' }) : wpAny (model prog w) A (call (.type "enumerate") [.ref l]) Q E s := by
  refine callType_new F.called_enumerate (by decide) (F.typeCall_enumerate_1 _) (F.newCall_enumerate_1 _) (fun z => F.args_object_init_2 z _) F.entry_enumerate_new enumT_new ⟨ht, ?_⟩
  have sz : (s.heap.push { cls := .type "tuple_iterator", data := .fields #[.ref l, .int 0 0] }).objs.size = s.heap.objs.size + 1 := Heap.size_push ..
  have e1 : IsEnum ((s.heap.push { cls := .type "tuple_iterator", data := .fields #[.ref l, .int 0 0] }).push { cls := .type "enumerate", data := .fields #[.none, .bool false, .ref s.heap.objs.size, rawInt 0, .none, .none] }) (s.heap.objs.size + 1) s.heap.objs.size 0 .none := by
    have z := Heap.get?_push_size (s.heap.push { cls := .type "tuple_iterator", data := .fields #[.ref l, .int 0 0] }) (o := { cls := .type "enumerate", data := .fields #[.none, .bool false, .ref s.heap.objs.size, rawInt 0, .none, .none] }) rfl
    rw [sz] at z; exact z
  show _ ∧ _
  rw [sz]
  exact ⟨⟨_, e1, rfl⟩, h _ e1 ⟨_, Heap.get?_push_of_some _ (Heap.get?_push_size _ rfl), rfl, rfl⟩ fun b o x => Heap.get?_push_of_some _ (Heap.get?_push_of_some _ x)⟩
theorem enumT_end {e it l : Addr} {i : Nat} {xs : Array Value} {old : Value} {Q : Option Value → Shared → Prop} (hh : A.handled = none) (he : IsEnum s.heap e it i old) (hit : s.heap.IsTupleIter it l i) (hl : s.heap.IsTuple l xs) (hx : xs[i]? = none)
    (hQ : ∀ h', Heap.ExtBut it s.heap h' → Q none { s with heap := h' }) : wpAny (model prog w) A (pyNext (.ref e)) Q E s := by
  have ty : s.TypeIs (.ref e) "enumerate" := ⟨_, he, rfl⟩
  unfold pyNext
  refine wpAny_bind (wpAny_attempt (wpAny_callSpecial?_slot (name := Str.ofString "__next__") ty F.slot_enumerate_next (wpAny_call_entry F.slot_enumerate_next ty F.entry_enumerate_next ?_ (F.args_enumerate_next_1 _))))
  show wpAny _ _ (field (.ref e) 2 >>= fun _ => _) _ _ _
  refine wpAny_bind (wpAny_field he rfl (x := .ref it) rfl (wpAny_bind (RZ.nextOf_tuple_end hh hit hl hx fun h' x k ⟨o, ho, hc⟩ => ?_)))
  exact wpAny_bind (wpAny_isInstance (T := "StopIteration") (b := true) ⟨o, ho, hc⟩ isSubtype_stop (wpAny_pure (hQ _ k)))
end
/-- the tuple at a as it stands at each turn, the items in new pairs -/
def IteT (K : PySem.W.Frag) (a : Addr) : It :=
  ⟨fun i H => ∃ (xs : List V) (x : V), SqT K H a xs ∧ xs[i]? = some x, fun i H v H' => ∃ T x, v = .ref T ∧ H T = none ∧ H' = upd H T (.tup [.int (i : Nat), x]) ∧ ∀ xs, SqT K H a xs → xs[i]? = some x, fun i H => ∃ xs : List V, SqT K H a xs ∧ xs.length ≤ i⟩
theorem turnT_enum {P : Program} {w : World} {K : PySem.W.Frag} {elts : List Expr} {kk : Nat} {tpos : Pos} (a e it : Addr) (hea : a ≠ it) :
    Turn P w K (.Tuple elts kk tpos) (IteT K a) [e, it] e (fun i h => (∃ old, IsEnum h e it ((i : Nat) : Int) old) ∧ h.IsTupleIter it a i ∧ e ≠ it ∧ a ≠ e) where
  mem := by simp
  obj := fun i h ⟨⟨old, he⟩, ⟨o, ho, hc, hd⟩, _⟩ b hb => by
    rcases (by simpa using hb : b = e ∨ b = it) with rfl | rfl
    · exact ⟨_, he, fun v q => nomatch q⟩
    · exact ⟨o, ho, fun v q => by rw [hd] at q; cases q⟩
  keep := fun i h h' ⟨⟨old, he⟩, hi, hne⟩ k => ⟨⟨old, k e (by simp) _ he⟩, hi.at fun o q => k it (by simp) o q, hne⟩
  item := by
    intro X hP hw hK hc i pins s σ H E I hf st hg
    subst hP hw hK
    obtain ⟨⟨old, he⟩, hit, hne, hae⟩ := st
    obtain ⟨xs, x, hq, hx⟩ := hg
    obtain ⟨its, rv, p, _⟩ := I.tuple hq
    obtain ⟨u, hu, ru⟩ := rv.get hx
    have hel : e < s.heap.objs.size := Heap.lt_size he
    have hil : it < s.heap.objs.size := by obtain ⟨_, q, _⟩ := hit; exact Heap.lt_size q
    have hlt : i < its.toArray.size := by simpa using (List.getElem?_eq_some_iff.mp hu).1
    have pt : s.heap.IsTuple a its.toArray := p
    refine wpAny_pyNext_enum_itemD (Draws.tuple (show X.A.in1.handled = none from I.ok.hd hc) it a hea its.toArray) he ⟨hit, pt⟩ hlt hne (by simp; exact ⟨hne, Ne.symm hae⟩) fun y h' tk hy ho st' hT hsz hk => ?_
    obtain rfl : y = u := by
      have : its[i]? = some y := by simpa using hy
      rw [hu] at this; exact (Option.some.inj this).symm
    refine ⟨_, rfl, wpAny_letOwnedTupleGo_enum (s := { s with heap := h', toks := tk + 1 }) ho fun h'' he' sb => ?_⟩
    have hT2 : h''.get? s.heap.objs.size = some { cls := .type "tuple", data := .seq #[.int i tk, y] } := (sb.2 _ (Nat.ne_of_gt hel)).trans hT
    have I1 : Inv X pins σ (upd H s.heap.objs.size (.tup [.int (i : Nat), x])) { s with heap := h'', toks := tk + 1 } :=
      I.turnedNew (ch := [e, it]) (fun b ob hb q => (sb.2 b (fun z => hb (by simp [z]))).trans (hk b ob (fun z => hb (by simp [z])) (fun z => hb (by simp [z])) q)) hf (Nat.le_refl _)
        (⟨by show 2 ≤ sizeLine; decide, [.int i tk, y], .cons ⟨_, rfl⟩ (.cons ru .nil), ⟨_, hT2, rfl, _, rfl⟩⟩ : ObjOk X.prog X.w (upd H s.heap.objs.size (.tup [.int (i : Nat), x])) h'' s.heap.objs.size (.tup [.int (i : Nat), x]))
    refine ⟨.ref s.heap.objs.size, _, I1, rfl, ⟨_, x, rfl, I.hok.fresh (Nat.le_refl _), rfl, fun ys hy => by rw [I.tuple_inj hy hq]; exact hx⟩, ⟨⟨y, by rw [show ((i + 1 : Nat) : Int) = (i : Int) + 1 by omega]; exact he'⟩, st'.1.at fun o q => (sb.2 it (Ne.symm hne)).trans q, hne, hae⟩, fun b hb => ?_⟩
    have hb' : b < s.heap.objs.size := by
      rcases (by simpa using hb : b = e ∨ b = it) with rfl | rfl
      · exact hel
      · exact hil
    rw [upd_ne (Nat.ne_of_lt hb')]
    exact (hf b hb).1
  done := by
    intro X hP hw hK hc i pins s σ H E I hf st hg
    subst hP hw hK
    obtain ⟨⟨old, he⟩, hit, hne, hae⟩ := st
    obtain ⟨xs, hq, hx⟩ := hg
    obtain ⟨its, rv, p, _⟩ := I.tuple hq
    obtain ⟨f0, f1, f2, f3, f4, f5⟩ := hf it (by simp)
    have hl := rv.length
    have pt : s.heap.IsTuple a its.toArray := p
    exact enumT_end (I.ok.hd hc) he hit pt (by simp; omega) fun h' eb => ⟨rfl, I.turned (t' := s.toks) (fun b o hb q => eb b o hb q) f0 f1 f3 f4 f5⟩
  self := fun A i s Q E ⟨⟨_, he⟩, _⟩ h => wpAny_pyIter_enum he h
/-- enumerate(x), x a list or a tuple -/
def iEnumA (K : PySem.W.Frag) (ta : TA) : TI := fun σ H R => ta σ H fun vs H1 => ∃ a xs, vs = [.ref a] ∧ ((SqL K H1 a xs ∧ R (Ite K a) H1) ∨ (SqT K H1 a xs ∧ R (IteT K a) H1))
theorem pi_enumA {X : Cx} {e : Expr} {ta : TA} {p pos tpos : Pos} {elts : List Expr} {kk : Nat} (K : PySem.W.Frag) (hg : Gl X "enumerate") (hm : X.mg "enumerate" = none) (ha : PA X [e] ta) (eK : X.K = K := by rfl) (hs : starEach [e] X.env = [(false, eval e X.env)] := by rfl) :
    PI X (.Tuple elts kk tpos) (.Call (.Name "enumerate" p) [e] [] pos) (iEnumA K ta) := by
  subst eK
  refine ⟨fun pins s σ H R I h => ?_⟩
  refine Call_ (ld_blt I hg hm boot_enumerate (PyProof.Rows.callWith_type1 (thn (ha.run pos pins s σ H _ I h) fun us s1 ⟨vs, H1, I1, r1, a, xs, ex, q⟩ => ?_) hs rfl))
  subst ex
  obtain ⟨u, rfl, ru⟩ := vals1 r1
  cases ru
  have fp : ∀ b, b ∈ [s1.heap.objs.size + 1, s1.heap.objs.size] → FpOk X pins H1 b := fun b hb => by
    have le : s1.heap.objs.size ≤ b := by
      rcases (by simpa using hb : b = s1.heap.objs.size + 1 ∨ b = s1.heap.objs.size) with rfl | rfl
      · exact Nat.le_succ _
      · exact Nat.le_refl _
    exact I1.fpOk le (I1.hok.fresh le)
  rcases q with ⟨hq, q⟩ | ⟨hq, q⟩
  · obtain ⟨its, rv, p', _⟩ := I1.list hq
    refine call_enumerate_list p'.isList fun h' he hit _ hk => wpAny_pyIter_enum he ?_
    exact ⟨s1.heap.objs.size + 1, [s1.heap.objs.size + 1, s1.heap.objs.size], _, _, H1, rfl, I1.kept (t' := s1.toks) hk, turn_enum a _ _, ⟨⟨.none, he⟩, hit, Nat.succ_ne_self _⟩, fp, q⟩
  · obtain ⟨its, rv, p', _⟩ := I1.tuple hq
    have al : a < s1.heap.objs.size := by
      obtain ⟨o, ho, _⟩ := p'
      exact Heap.lt_size ho
    refine enumT_call (show s1.heap.IsTuple a its.toArray from p') fun h' he hit hk => wpAny_pyIter_enum he ?_
    exact ⟨s1.heap.objs.size + 1, [s1.heap.objs.size + 1, s1.heap.objs.size], _, _, H1, rfl, I1.kept (t' := s1.toks) hk, turnT_enum a _ _ (Nat.ne_of_lt al), ⟨⟨.none, he⟩, hit, Nat.succ_ne_self _, Nat.ne_of_lt (Nat.lt_succ_of_lt al)⟩, fp, q⟩
def enumDA : List Dt → Option (List Dt) | [.tup l] => some (enumL 0 l) | [d] => (lstI d).map (enumL 0) | _ => none
section
variable {cl : Str → Option Addr} {K : PySem.W.Frag} {c : Fx} {ss : Ss} {as : List AE} {tA : TA}
theorem si_enumA (ha : SA cl K c ss tA as) (hv : valAs as = true := by rfl) : SI cl K c ss (iEnumA K tA) (iOpA enumDA as) := fun B Ai ρ σ H Q R p => by
  unfold iOpA at p
  refine ha.use R (fun ds ρ1 e1 vs Ai1 H1 x1 R1 ok => ?_) (fun x ρ1 e1 => by rw [e1] at p; exact p) fun e1 => by rw [e1] at p; exact p
  simp only [e1, Er.bind] at p
  cases e2 : enumDA ds with
  | none => rw [e2] at p; exact p.elim
  | some z =>
    rw [e2] at p
    obtain ⟨a1, a2⟩ := ok.ats hv
    unfold enumDA at e2
    split at e2
    · rename_i l
      cases e2
      match vs, a1 with
      | [v], _ =>
        obtain ⟨a, xs, rfl, b1, b2⟩ := (Bor.at (a2 0 v _ rfl rfl) (H := MH B Ai1 H1)).tupA (Same.refl _)
        refine ⟨a, xs, rfl, .inr ⟨sqt_same mask_same b1, p _ Ai1 H1 x1 R1 fun M2 H2 s1 s2 => ⟨fun i hi => ⟨xs, sqt_same s2 (sqt_same s1 b1), by rw [enumL_len] at hi; rw [b2.1]; exact hi⟩, fun i d ed => ?_⟩⟩⟩
        obtain ⟨z, hz, rfl⟩ := enumL_at ed
        obtain ⟨v, hv', _⟩ := b2.at hz
        refine ⟨⟨xs, v, sqt_same s2 (sqt_same s1 b1), hv'⟩, fun x H3 hy => ?_⟩
        obtain ⟨T, y, rfl, nT, rfl, hy⟩ := hy
        have hy := hy xs (sqt_same s2 (sqt_same s1 b1))
        refine .new nT (.tupA ⟨rfl, fun j v d h1 h2 => ?_⟩)
        match j with
        | 0 => cases h1; cases h2; rw [Nat.zero_add]; exact .int _
        | 1 => cases h1; cases h2; exact (b2.2 i _ _ hy hz).mono s1
        | j + 2 => simp at h1
    · rename_i d _
      simp only [Option.map_eq_some_iff] at e2
      obtain ⟨l, hl, rfl⟩ := e2
      match vs, a1 with
      | [v], _ =>
        obtain ⟨a, xs, rfl, b1, b2⟩ := (Bor.at (a2 0 v d rfl rfl) (H := MH B Ai1 H1)).lstsA (Same.refl _) hl
        refine ⟨a, xs, rfl, .inl ⟨mask_same.seq b1, p _ Ai1 H1 x1 R1 fun M2 H2 s1 s2 => ⟨fun i hi => ⟨xs, s2.seq (s1.seq b1), by rw [enumL_len] at hi; rw [b2.1]; exact hi⟩, fun i d ed => ?_⟩⟩⟩
        obtain ⟨z, hz, rfl⟩ := enumL_at ed
        obtain ⟨v, hv', _⟩ := b2.at hz
        refine ⟨⟨xs, v, s2.seq (s1.seq b1), hv'⟩, fun x H3 hy => ?_⟩
        obtain ⟨T, y, rfl, nT, rfl, hy⟩ := hy
        have hy := hy xs (s2.seq (s1.seq b1))
        refine .new nT (.tupA ⟨rfl, fun j v d h1 h2 => ?_⟩)
        match j with
        | 0 => cases h1; cases h2; rw [Nat.zero_add]; exact .int _
        | 1 => cases h1; cases h2; exact (b2.2 i _ _ hy hz).mono s1
        | j + 2 => simp at h1
    · cases e2
end
/-! ### sum of a tuple of numbers -/
section
variable {prog : Program} {w : World} {A : Around} {E : Value → Shared → Prop} {s : Shared} {l : Addr} {its : List Value} {ns : List Int} {Q : Value → Shared → Prop}
theorem preSum_at (f : Nat → Int) : ∀ n, preSum f n = ((List.range n).map f).sum
  | 0 => rfl
  | n + 1 => by rw [List.range_succ, List.map_append, List.sum_append, ← preSum_at f n]; simp [preSum]
theorem sumT_raw (hh : A.handled = none) (hl : s.heap.IsTuple l its.toArray) (hi : Vals (ns.map V.int) its)
    (h : ∀ h' tk t', (∀ b o, s.heap.get? b = some o → h'.get? b = some o) → Q (.int ns.sum t') { s with heap := h', toks := tk }) : wpAny (model prog w) A (call (.builtin "sum") [.ref l]) Q E s := by
  have lt : l < s.heap.objs.size := by obtain ⟨_, e, _⟩ := hl; exact Heap.lt_size e
  refine call_sum_walkG (wpAny_pyIter_tuple hl ?_)
  refine ⟨s.heap.objs.size, [s.heap.objs.size, l], [s.heap.objs.size], its.toArray.size, _, _, fun i => ns.getD i 0, rfl, Walks.tuple (A := A.in1) hh _ l (Nat.ne_of_lt lt) its.toArray,
    ⟨⟨_, Heap.get?_push_size _ rfl, rfl, rfl⟩, hl.at fun o e => Heap.get?_push_of_some _ e⟩, fun b hb => ?_, fun i v hP => ?_, fun h' tk t' hk => ?_⟩
  · rw [Heap.size_push]
    rcases (by simpa using hb : b = s.heap.objs.size ∨ b = l) with rfl | rfl
    · exact Nat.lt_succ_self _
    · exact Nat.lt_succ_of_lt lt
  · have hv : its[i]? = some v := by simpa using hP
    have hlen := hi.length
    have hlt : i < ns.length := by have := (List.getElem?_eq_some_iff.mp hv).1; simp at hlen; omega
    obtain ⟨u, hu, ru⟩ := hi.get (i := i) (x := V.int ns[i]) (by simp [hlt])
    rw [hv] at hu
    cases hu
    show ∃ t, v = Value.int (ns.getD i 0) t
    rw [List.getD_eq_getElem?_getD, List.getElem?_eq_getElem hlt]
    exact ru
  · have e : preSum (fun i => ns.getD i 0) its.toArray.size = ns.sum := by
      rw [preSum_at]
      congr 1
      have hlen := hi.length
      apply List.ext_getElem
      · simp at hlen ⊢; omega
      · intro i h1 h2; simp [h2]
    rw [e]
    exact h h' tk t' fun b o x => hk b o (fun z => Nat.ne_of_lt (Heap.lt_size x) (List.mem_singleton.mp z)) (Heap.get?_push_of_some _ x)
end
def rSumA (K : PySem.W.Frag) : List V → Hp → VK → Prop := fun vs H Q => ∃ (a : Addr) (ns : List Int), vs = [V.ref a] ∧ (SqL K H a (ns.map V.int) ∨ SqT K H a (ns.map V.int)) ∧ Q (.int ns.sum) H
theorem cr_sumA {X : Cx} (K : PySem.W.Frag) (eK : X.K = K := by rfl) (hc : X.calm = true := by rfl) : CallR X (.builtin "sum") (rSumA K) := by
  subst eK
  intro pins s σ H xs us Q I r h
  obtain ⟨a, ns, rfl, hs, q⟩ := h
  rcases hs with hs | hs
  · exact cr_sum hc pins s σ H _ us Q I r ⟨a, ns, rfl, hs, q⟩
  · obtain ⟨its, rv, ht, _⟩ := I.tuple hs
    rw [Vals.ref1 r]
    exact sumT_raw (I.ok.hd hc) (show s.heap.IsTuple a its.toArray from ht) rv fun h' tk t' hk => ⟨.int _, H, I.kept hk, ⟨_, rfl⟩, q⟩
def seqI2 : Dt → Option (List Dt) | .lst l => some l | .rol l => some l | .tup l => some l | _ => none
def sumDA : List Dt → Option Dt
  | [d] => (match seqI2 d with | some l => (intsD l).map fun ns => .int ns.sum | none => none)
  | _ => none
section
variable {cl : Str → Option Addr} {K : PySem.W.Frag}
theorem os_sumA : OpS cl K sumDA (rSumA K) := fun M H vs ds z Q sm hb e q => by
  unfold sumDA at e
  split at e
  · rename_i d
    split at e
    · rename_i l hl
      simp only [Option.map_eq_some_iff] at e
      obtain ⟨ns, hn, rfl⟩ := e
      obtain ⟨v, rfl, h⟩ := hb.one
      have hn := intsD_at hn
      subst hn
      cases d with
      | tup l' =>
        cases hl
        obtain ⟨a, xs, rfl, a1, a2⟩ := h.tupA sm
        rw [a2.ints] at a1
        exact ⟨a, ns, rfl, .inr a1, q _ _ (.old (.int _))⟩
      | lst l' =>
        obtain ⟨a, xs, rfl, a1, a2⟩ := h.lstsA sm hl
        rw [a2.ints] at a1
        exact ⟨a, ns, rfl, .inl a1, q _ _ (.old (.int _))⟩
      | rol l' =>
        obtain ⟨a, xs, rfl, a1, a2⟩ := h.lstsA sm hl
        rw [a2.ints] at a1
        exact ⟨a, ns, rfl, .inl a1, q _ _ (.old (.int _))⟩
      | _ => cases hl
    · cases e
  · cases e
end
/-! ### dicts whose keys are numbers and texts -/
def keyD : Dt → Option Key
  | .int i => some (.inl i)
  | .str x => some (.inr x)
  | _ => none
def eqKD (d : Dt) (k : Key) : Bool := match d, k with
  | .int i, .inl j => decide (i = j)
  | .str x, .inr y => decide (x = y)
  | _, _ => false
def getL (l : List (Dt × Dt)) (k : Key) : Option Dt := (l.find? fun p => eqKD p.1 k).map (·.2)
def putL (l : List (Dt × Dt)) (k : Key) (v : Dt) : List (Dt × Dt) := if l.any (fun p => eqKD p.1 k) = true then l.map (fun p => if eqKD p.1 k = true then (p.1, v) else p) else l ++ [(kD k, v)]
theorem eqKD_kD {j k : Key} : eqKD (kD j) k = decide (j = k) := by
  cases j <;> cases k <;> simp [kD, eqKD]
def dicI : Dt → Option (List (Dt × Dt)) | .dic l => some l | .rdc l => some l | _ => none
/-- the pairs at hand are those of the data -/
def DicR (cl : Str → Option Addr) (K : PySem.W.Frag) (M : Hp) (xs : List (Key × V)) (ds : List (Dt × Dt)) : Prop :=
  xs.length = ds.length ∧ (∀ (i : Nat) k v kd d, xs[i]? = some (k, v) → ds[i]? = some (kd, d) → kd = kD k) ∧ ∀ (i : Nat) k v kd d, xs[i]? = some (k, v) → ds[i]? = some (kd, d) → At cl K M v d
section
variable {cl : Str → Option Addr} {K : PySem.W.Frag} {F : FP} {c : Fx} {B : Addr → Prop} {Ai Ai' : Nat → Addr → Prop} {ss ss' : Ss} {ρ ρ' : Env} {σ : L2.St} {M H H' : Hp} {v : V} {d : Dt} {s : Sh} {A : Addr → Prop} {xs : List (Key × V)} {l : List (Dt × Dt)} {k : Key} {p : Addr}
  {t ta tb td ti te : TE} {e e' a b kk : EM Dt} {as : List AE} {tA : TA}
theorem keyD_at (h : At cl K M v d) (e : keyD d = some k) : v = kV k ∧ d = kD k := by
  cases h <;> simp [keyD] at e <;> subst e <;> exact ⟨rfl, rfl⟩
theorem DicR.nil : DicR cl K M [] [] := ⟨rfl, fun _ _ _ _ _ h => by simp at h, fun _ _ _ _ _ h => by simp at h⟩
theorem DicR.mono (sm : Same M H) (h : DicR cl K M xs l) : DicR cl K H xs l := ⟨h.1, h.2.1, fun i k v kd d a b => (h.2.2 i k v kd d a b).mono sm⟩
theorem DicR.cons {q : Key × V} {r : Dt × Dt} (h : DicR cl K M (q :: xs) (r :: l)) : r.1 = kD q.1 ∧ At cl K M q.2 r.2 ∧ DicR cl K M xs l :=
  ⟨h.2.1 0 q.1 q.2 r.1 r.2 rfl rfl, h.2.2 0 q.1 q.2 r.1 r.2 rfl rfl, by simpa using h.1, fun i k v kd d a b => h.2.1 (i + 1) k v kd d (by simpa using a) (by simpa using b), fun i k v kd d a b => h.2.2 (i + 1) k v kd d (by simpa using a) (by simpa using b)⟩
theorem DicR.mk {q : Key × V} {r : Dt × Dt} (h1 : r.1 = kD q.1) (h2 : At cl K M q.2 r.2) (h : DicR cl K M xs l) : DicR cl K M (q :: xs) (r :: l) := by
  refine ⟨by simp [h.1], fun i k v kd d a b => ?_, fun i k v kd d a b => ?_⟩
  · cases i with
    | zero => simp at a b; subst a b; exact h1
    | succ i => exact h.2.1 i k v kd d (by simpa using a) (by simpa using b)
  · cases i with
    | zero => simp at a b; subst a b; exact h2
    | succ i => exact h.2.2 i k v kd d (by simpa using a) (by simpa using b)
theorem DicR.get : ∀ {xs : List (Key × V)} {l : List (Dt × Dt)}, DicR cl K M xs l → (getL l k = none → valV xs k = none) ∧ ∀ d, getL l k = some d → ∃ v, valV xs k = some v ∧ At cl K M v d
  | [], [], _ => ⟨fun _ => rfl, fun d h => by cases h⟩
  | [], _ :: _, h => by cases h.1
  | _ :: _, [], h => by cases h.1
  | q :: xs, r :: l, h => by
    obtain ⟨h1, h2, h3⟩ := h.cons
    obtain ⟨g1, g2⟩ := DicR.get h3
    have ek : eqKD r.1 k = decide (q.1 = k) := by rw [h1, eqKD_kD]
    by_cases z : q.1 = k
    · have ez : eqKD r.1 k = true := by rw [ek]; simpa using z
      have e : getL (r :: l) k = some r.2 := by simp [getL, List.find?_cons, ez]
      rw [e, valV_pos z]
      exact ⟨(fun y => nomatch y), (fun d y => ⟨q.2, rfl, Option.some.inj y ▸ h2⟩)⟩
    · have ez : eqKD r.1 k = false := by rw [ek]; simpa using z
      have e : getL (r :: l) k = getL l k := by simp [getL, List.find?_cons, ez]
      rw [e, valV_neg z]
      exact ⟨g1, g2⟩
theorem DicR.any : ∀ {xs : List (Key × V)} {l : List (Dt × Dt)}, DicR cl K M xs l → (xs.any fun kv => decide (kv.1 = k)) = l.any (fun p => eqKD p.1 k)
  | [], [], _ => rfl
  | [], _ :: _, h => by cases h.1
  | _ :: _, [], h => by cases h.1
  | q :: xs, r :: l, h => by
    obtain ⟨h1, _, h3⟩ := h.cons
    rw [List.any_cons, List.any_cons, h3.any, h1, eqKD_kD]
theorem DicR.repl (hv : At cl K M v d) : ∀ {xs : List (Key × V)} {l : List (Dt × Dt)}, DicR cl K M xs l → DicR cl K M (xs.map fun kv => if kv.1 = k then (kv.1, v) else kv) (l.map fun p => if eqKD p.1 k = true then (p.1, d) else p)
  | [], [], _ => .nil
  | [], _ :: _, h => by cases h.1
  | _ :: _, [], h => by cases h.1
  | q :: xs, r :: l, h => by
    obtain ⟨h1, h2, h3⟩ := h.cons
    have ek : eqKD r.1 k = decide (q.1 = k) := by rw [h1, eqKD_kD]
    rw [List.map_cons, List.map_cons]
    by_cases z : q.1 = k
    · rw [if_pos z, if_pos (by rw [ek]; simpa using z)]; exact .mk h1 hv (h3.repl hv)
    · rw [if_neg z, if_neg (by rw [ek]; simpa using z)]; exact .mk h1 h2 (h3.repl hv)
theorem DicR.snoc (hv : At cl K M v d) : ∀ {xs : List (Key × V)} {l : List (Dt × Dt)}, DicR cl K M xs l → DicR cl K M (xs ++ [(k, v)]) (l ++ [(kD k, d)])
  | [], [], _ => .mk rfl hv .nil
  | [], _ :: _, h => by cases h.1
  | _ :: _, [], h => by cases h.1
  | q :: xs, r :: l, h => by
    obtain ⟨h1, h2, h3⟩ := h.cons
    exact .mk h1 h2 (h3.snoc hv)
theorem DicR.put (hv : At cl K M v d) (h : DicR cl K M xs l) : DicR cl K M (putK xs k v) (putL l k d) := by
  unfold putK putL
  rw [h.any]
  split
  · exact h.repl hv
  · exact h.snoc hv
/-- a dict that is looked at -/
theorem Bor.dict (sm : Same M H) (h : Bor cl K M H v d) (e : dicI d = some l) : ∃ a xs, v = .ref a ∧ Rd H a (.dK xs) ∧ DicR cl K M xs l := by
  cases h with
  | «at» h =>
    cases h with
    | dic h1 h2 hk h3 => cases e; exact ⟨_, _, rfl, rd_same sm h1, h2, hk, h3⟩
    | rdc h1 h2 hk h3 => cases e; obtain ⟨o, h1⟩ := h1; exact ⟨_, _, rfl, .inr ⟨o, sm _ _ h1⟩, h2, hk, h3⟩
    | _ => cases e
  | new hn h1 h =>
    cases h with
    | dic h2 hk h3 => cases e; exact ⟨_, _, rfl, .inl h1, h2, hk, h3⟩
    | _ => cases e
/-! readings -/
abbrev rDIn (no : Bool) : R2 := fun y x H Q => ∃ a o, x = .ref a ∧ DGet H a y o ∧ Q (.bl (if no then !o.isSome else o.isSome)) H
abbrev rDGet : R2 := fun x y H Q => ∃ a v, x = .ref a ∧ DGet H a y (some v) ∧ Q v H
theorem op_dinK {X : Cx} (hu : X.A.units + 1 < cLine) : OpR X (compareOp .In) (rDIn false) := fun pins s σ H x y v u Q I rx ry h => by
  obtain ⟨a, o, ex, g, q⟩ := h
  subst ex
  obtain rfl : u = Value.ref a := ry
  exact d_in hu I g rx fun s3 I3 => ⟨.bl o.isSome, H, I3, rfl, q⟩
theorem op_dnotInK {X : Cx} (hu : X.A.units + 1 < cLine) : OpR X (compareOp .NotIn) (rDIn true) := fun pins s σ H x y v u Q I rx ry h => by
  obtain ⟨a, o, ex, g, q⟩ := h
  subst ex
  obtain rfl : u = Value.ref a := ry
  exact d_notIn hu I g rx fun s3 I3 => ⟨.bl (!o.isSome), H, I3, rfl, q⟩
def dInD (no : Bool) : List Dt → Option Dt
  | [y, x] => (match keyD y, dicI x with | some k, some l => some (.bl (if no then !(getL l k).isSome else (getL l k).isSome)) | _, _ => none)
  | _ => none
def dGetD : List Dt → Option Dt
  | [x, y] => (match keyD y, dicI x with | some k, some l => getL l k | _, _ => none)
  | _ => none
theorem Bor.keyAt (h : Bor cl K M H v d) (e : keyD d = some k) : v = kV k ∧ d = kD k := by
  cases h with
  | «at» h => exact keyD_at h e
  | new hn h1 h => cases h <;> simp [keyD] at e
theorem dget_of {a : Addr} (h1 : Rd H a (.dK xs)) (o : Option V) (e : valV xs k = o) : DGet H a (kV k) o := .inl ⟨xs, k, h1, rfl, e.symm⟩
theorem os_din {no : Bool} : OpS cl K (dInD no) (k2 (rDIn no)) := fun M H vs ds z Q sm hb e q => by
  unfold dInD at e
  split at e
  · rename_i y x
    split at e
    · rename_i k l hk hl
      cases e
      obtain ⟨v, w, rfl, h1, h2⟩ := hb.two
      obtain ⟨rfl, rfl⟩ := h1.keyAt hk
      obtain ⟨a, xs, rfl, a1, a2⟩ := h2.dict sm hl
      obtain ⟨g1, g2⟩ := DicR.get (k := k) a2
      refine ⟨a, valV xs k, rfl, dget_of a1 _ rfl, ?_⟩
      have e : (valV xs k).isSome = (getL l k).isSome := by
        cases hg : getL l k with
        | none => rw [g1 hg]; rfl
        | some d => obtain ⟨v, hv, _⟩ := g2 d hg; rw [hv]; rfl
      rw [e]
      exact q _ _ (.old (.bl _))
    · cases e
  · cases e
theorem os_dget : OpS cl K dGetD (k2 rDGet) := fun M H vs ds z Q sm hb e q => by
  unfold dGetD at e
  split at e
  · rename_i x y
    split at e
    · rename_i k l hk hl
      obtain ⟨v, w, rfl, h1, h2⟩ := hb.two
      obtain ⟨rfl, rfl⟩ := h2.keyAt hk
      obtain ⟨a, xs, rfl, a1, a2⟩ := h1.dict sm hl
      obtain ⟨u, hu, hat⟩ := (DicR.get (k := k) a2).2 z e
      exact ⟨a, u, rfl, dget_of a1 _ hu, q _ _ (.old hat)⟩
    · cases e
  · cases e
/-! a new one; a store -/
def eDic : EM Dt := fun ρ => .ok (.dic []) ρ
theorem sn_dic : SE cl K c ss (.dc .fz) tDNewK eDic := fun B Ai ρ σ H Q R p => by
  intro q n
  obtain ⟨Ai2, x2, R2, o2⟩ := R.own (o := .dK []) n (NewO.dic (p := q) (xs := []) (ds := []) rfl (fun _ _ _ _ _ h => by simp at h) fun _ _ _ _ _ h => by simp at h) (fun z => nomatch z)
  exact p _ Ai2 _ x2 R2 o2
theorem Own.dicFz (h : Own cl K M H (.dc .fz) v d A) : ∃ p xs l, v = .ref p ∧ d = .dic l ∧ H p = some (.dK xs) ∧ DicR cl K M xs l ∧ ∀ a, A a ↔ a = p := by
  obtain ⟨p, o, rfl, h1, ho, h2, h3⟩ := h.flat rfl (fun z => nomatch z)
  cases h2 with
  | dic a1 a2 a3 => exact ⟨p, _, _, rfl, rfl, h1, ⟨a1, a2, a3⟩, h3⟩
  | _ => cases ho
def sDPut (i : Nat) (kk e : EM Dt) : SM := fun ρ => (e ρ).go fun d ρ1 => if (gv ρ1 i).isSome then (kk ρ1).go fun z ρ2 => (match gv ρ2 i, keyD z with
  | some (.dic l), some k => if l.length < 16777216 then .nx (ρ2.set i (some (.dic (putL l k d)))) else .stuck
  | _, _ => .stuck) else .stuck
theorem putK_le {k : Key} : (putK xs k v).length ≤ xs.length + 1 := length_putK xs k v
theorem ss_dput {i : Nat} (h : SE cl K c ss .fz te e) (hk : SE cl K c ss .fz ti kk) (hs : sh ss i = .dc .fz := by rfl) (hqq : c.q = false := by rfl) : SS cl K c ss ss (L2.sDPut (tVar i) ti te) (sDPut i kk e) := fun B Ai ρ σ H D R p => by
  unfold sDPut at p
  refine h.use R (fun d ρ1 e1 v Ai1 H1 x1 R1 o1 => ?_) (fun x ρ1 e1 => by rw [e1] at p; exact p) fun e1 => by rw [e1] at p; exact p
  simp only [e1, Er.go] at p
  cases e0 : gv ρ1 i with
  | none => rw [e0] at p; exact p.elim
  | some d0 =>
    simp only [e0, Option.isSome_some, if_true] at p
    obtain ⟨w, w1, w2⟩ := R1.get (gv_some e0)
    refine ⟨w, w1, hk.use R1 (fun z ρ2 e2 u Ai2 H2 x2 R2 o2 => ?_) (fun x ρ2 e2 => by rw [e2] at p; exact XPost.ext x1 p) fun e2 => by rw [e2] at p; exact p⟩
    simp only [e2] at p
    split at p
    · rename_i l k ed ek
      split at p
      · rename_i hl
        obtain ⟨w', g1, g2⟩ := R2.get (gv_some ed)
        rw [w1] at g1
        cases g1
        rw [hs] at g2
        obtain ⟨q, xs, l', rfl, el, hq, hxs, hA⟩ := g2.dicFz
        cases el
        obtain ⟨rfl, rfl⟩ := keyD_at o2.fzAt.1 ek
        have hput := hxs.put (k := k) (o1.fzAt.1.mono x2.same)
        obtain ⟨Ai3, x3', R3⟩ := R2.mutN (o := .dK (putK xs k v)) (d' := .dic (putL l k d)) (gv_some ed) w1 hA (by rw [hs]; exact fun z => nomatch z) (by rw [hs]; rfl) (.dic hput.1 hput.2.1 hput.2.2)
        have x3 := x3'.fq hqq
        exact ⟨q, _, rfl, .k hq (line_lt (by rw [hxs.1]; exact hl)), p σ Ai3 _ ((x1.trans x2).trans x3) R3 fun _ _ => rfl⟩
      · exact p.elim
    · exact p.elim
/-- d.get(k, x), d held by a name -/
def eDGetO (i : Nat) (kk e : EM Dt) : EM Dt := fun ρ => if (gv ρ i).isSome then (kk ρ).bind fun z ρ1 => (e ρ1).bind fun d ρ2 => (match gv ρ2 i, keyD z with
  | some (.dic l), some k => .ok ((getL l k).getD d) ρ2
  | _, _ => .stuck) else .stuck
theorem se_dgetO {i : Nat} (hk : SE cl K c ss .fz ti kk) (h : SE cl K c ss .fz te e) (hs : sh ss i = .dc .fz := by rfl) : SE cl K c ss .fz (tDGet2 (tVar i) ti te) (eDGetO i kk e) := fun B Ai ρ σ H Q R p => by
  unfold eDGetO at p
  cases e0 : gv ρ i with
  | none => rw [e0] at p; exact p.elim
  | some d0 =>
    simp only [e0, Option.isSome_some, if_true] at p
    obtain ⟨w, w1, w2⟩ := R.get (gv_some e0)
    rw [hs] at w2
    obtain ⟨q0, xs0, l0, rfl, _, hq0, _, _⟩ := w2.dicFz
    refine ⟨.ref q0, w1, q0, rfl, .inl ⟨_, .inl hq0⟩, hk.use R (fun z ρ1 e1 u Ai1 H1 x1 R1 o1 => ?_) (fun x ρ1 e1 => by rw [e1] at p; exact p) fun e1 => by rw [e1] at p; exact p⟩
    simp only [e1, Er.bind] at p
    refine h.use R1 (fun d ρ2 e2 v Ai2 H2 x2 R2 o2 => ?_) (fun x ρ2 e2 => by rw [e2] at p; exact XPost.ext x1 p) fun e2 => by rw [e2] at p; exact p
    simp only [e2] at p
    split at p
    · rename_i l k ed ek
      obtain ⟨w', g1, g2⟩ := R2.get (gv_some ed)
      rw [w1] at g1
      cases g1
      rw [hs] at g2
      obtain ⟨q, xs, l', eq, el, hq, hxs, hA⟩ := g2.dicFz
      cases el
      cases eq
      obtain ⟨rfl, rfl⟩ := keyD_at (o1.fzAt.1.mono x2.same) ek
      obtain ⟨g1, g2⟩ := DicR.get (k := k) hxs
      refine ⟨valV xs k, dget_of (.inl hq) _ rfl, ?_⟩
      have hat : At cl K (MH B Ai2 H2) ((valV xs k).getD v) ((getL l k).getD d) := by
        cases hg : getL l k with
        | none => rw [g1 hg]; exact o2.fzAt.1
        | some z => obtain ⟨u, hu, ha⟩ := g2 z hg; rw [hu]; exact ha
      obtain ⟨Ai3, x3, R3, o3⟩ := R2.res (.old hat)
      exact p _ Ai3 H2 ((x1.trans x2).trans x3) R3 o3
    · exact p.elim
end
/-! ### a dict is given away for good: locked from now on -/
/-- what is read behind the lock -/
def tFrzS (i : Nat) (t : TS) : TS := fun D σ H => ∃ a u, σ[i]? = some (some (.ref a)) ∧ H a = some u ∧ Mut (some u) ∧ ∀ od, t D σ (upd H a (.frz od u))
theorem ps_frz {X : Cx} {st : Stmt} {t : TS} (i : Nat) (h : PS X st t) : PS X st (tFrzS i t) := by
  refine ⟨fun pins s σ H D I hw => ?_⟩
  obtain ⟨a, u, _, hd, mu, hw⟩ := hw
  obtain ⟨od, I1⟩ := I.lock hd mu
  exact h.run pins s σ _ _ I1 (hw od)
def tFrzE (t : TE) : TE := fun σ H Q => t σ H fun v H1 => ∃ a u, v = .ref a ∧ H1 a = some u ∧ Mut (some u) ∧ ∀ od, Q v (upd H1 a (.frz od u))
theorem pe_frz {X : Cx} {e : Expr} {t : TE} (h : PE X e t) : PE X e (tFrzE t) := by
  refine ⟨fun pins s σ H Q I hw => ?_⟩
  refine thn (h.run pins s σ H _ I hw) fun v s1 ⟨x, H1, I1, r, a, u, ex, hd, mu, q⟩ => ?_
  obtain ⟨od, I2⟩ := I1.lock hd mu
  exact ⟨x, _, I2, r, q od⟩
def frzD : Dt → Option Dt | .dic l => some (.rdc l) | .dit l => some (.rdt l) | _ => none
def sFrz (i : Nat) (s : SM) : SM := fun ρ => match (gv ρ i).bind frzD with | some d => s (ρ.set i (some d)) | none => .stuck
def eFrz (e : EM Dt) : EM Dt := fun ρ => (e ρ).bind fun d ρ1 => match frzD d with | some z => .ok z ρ1 | none => .stuck
def isDS : Sh → Bool | .dc .fz => true | .dt .fz => true | _ => false
section
variable {cl : Str → Option Addr} {K : PySem.W.Frag} {F : FP} {c : Fx} {B : Addr → Prop} {Ai Ai' : Nat → Addr → Prop} {ss ss' ss1 : Ss} {ρ ρ' : Env} {σ : L2.St} {M H H' : Hp} {v : V} {d z : Dt} {s : Sh} {A : Addr → Prop} {xs : List (Key × V)} {l : List (Dt × Dt)} {k : Key} {p : Addr}
  {t ta tb td ti te : TE} {e e' a b kk : EM Dt} {as : List AE} {tA : TA} {u1 : TS} {s1 : SM}
theorem Own.dsFz (h : Own cl K M H s v d A) (hs : isDS s = true) : ∃ p o, v = .ref p ∧ H p = some o ∧ Mut (some o) ∧ NewO cl K M p o d ∧ (∀ a, A a ↔ a = p) ∧ ∃ z, frzD d = some z ∧ ∀ (M' : Hp) od, Same M M' → M' p = some (.frz od o) → At cl K M' v z := by
  have hf : flatSh s = true := by
    cases s with
    | dc s => cases s <;> first | rfl | cases hs
    | dt s => cases s <;> first | rfl | cases hs
    | _ => cases hs
  have hn : s ≠ .fz := fun y => by rw [y] at hs; cases hs
  obtain ⟨p, o, rfl, h1, ho, h2, h3⟩ := h.flat hf hn
  refine ⟨p, o, rfl, h1, ?_, h2, h3, ?_⟩
  · cases h2 with
    | dic _ _ _ => exact True.intro
    | dit _ _ _ => exact True.intro
    | lst _ _ => subst ho; cases hs
    | tup _ _ => subst ho; cases hs
  · cases h2 with
    | dic a1 a2 a3 => exact ⟨_, rfl, fun M' od sm e => .rdc ⟨od, e⟩ a1 a2 fun i k v kd d x y => (a3 i k v kd d x y).mono sm⟩
    | dit a1 a2 a3 => exact ⟨_, rfl, fun M' od sm e => .rdt ⟨od, e⟩ a1 (fun i k b v kd d x y => (a2 i k b v kd d x y).1) (fun i k b v kd d x y => (a2 i k b v kd d x y).2.mono sm) fun i k b v kd d x y => (a3 i k b v kd d x y).mono sm⟩
    | lst _ _ => subst ho; cases hs
    | tup _ _ => subst ho; cases hs
theorem ss_frz {i : Nat} (h : SS cl K c ss1 ss' u1 s1) (hs : isDS (sh ss i) = true := by rfl) (hk : okSet ss i .fz ss1 = true := by rfl) (hqq : c.q = false := by rfl) : SS cl K c ss ss' (tFrzS i u1) (sFrz i s1) := fun B Ai ρ σ H D R p => by
  unfold sFrz at p
  cases e0 : gv ρ i with
  | none => rw [e0] at p; exact p.elim
  | some d0 =>
    rw [e0] at p
    obtain ⟨w, w1, w2⟩ := R.get (gv_some e0)
    obtain ⟨a, o, rfl, ha, mu, _, hA, z, ez, hz⟩ := w2.dsFz hs
    simp only [Option.bind_some, ez] at p
    refine ⟨a, o, w1, ha, mu, fun od => ?_⟩
    obtain ⟨k1, k2⟩ := okSet_at hk
    have hi : i < ρ.length := (List.getElem?_eq_some_iff.mp (gv_some e0)).1
    obtain ⟨R2, x2⟩ := R.step (q := c.q) (k := i) (A := fun _ => False) (H' := upd H a (.frz od o)) (ρ' := ρ.set i (some z)) (σ' := σ) (ss' := ss1) (fun _ z => z.elim) (fun _ z => z.elim)
      (fun b u na e => by rw [upd_ne (fun y => na (by rw [y]; exact (hA a).mpr rfl))]; exact e) (by simpa using R.len) (fun _ _ => rfl) (fun y => by rw [hqq] at y; cases y)
      (fun j d e hj => by
        rw [List.getElem?_set_ne (Ne.symm hj)] at e
        obtain ⟨v, q1, q2⟩ := R.row j d e
        exact ⟨v, q1, .inl ⟨e, q1, k2 j hj⟩⟩)
      (fun d e => by
        rw [List.getElem?_set_self hi] at e
        cases e
        refine ⟨.ref a, w1, ?_⟩
        rw [k1]
        refine .fz (hz _ od (fun b u e => ?_) (mask_some.mpr ⟨fun y => ?_, upd_same⟩)) fun _ y => y
        · obtain ⟨n1, n2⟩ := mask_some.mp e
          refine mask_some.mpr ⟨fun y => n1 ?_, ?_⟩
          · rcases y with y | ⟨j, y⟩
            · exact .inl y
            · rcases setA_imp y with ⟨_, y⟩ | ⟨_, y⟩
              · exact y.elim
              · exact .inr ⟨j, y⟩
          · rw [upd_ne (fun y => n1 (.inr ⟨i, by rw [y]; exact (hA a).mpr rfl⟩))]; exact n2
        · rcases y with y | ⟨j, y⟩
          · exact R.nb i a ((hA a).mpr rfl) y
          · rcases setA_imp y with ⟨_, y⟩ | ⟨hj, y⟩
            · exact y.elim
            · exact hj (R.dj j i a y ((hA a).mpr rfl)))
    exact h.use R2 (p.ext0 x2)
theorem se_frz (h : SE cl K c ss s t e) (hs : isDS s = true := by rfl) (hqq : c.q = false := by rfl) : SE cl K c ss .fz (tFrzE t) (eFrz e) := fun B Ai ρ σ H Q R p => by
  unfold eFrz at p
  refine h.use R (fun d ρ1 e1 v Ai1 H1 x1 R1 o1 => ?_) (fun x ρ1 e1 => by rw [e1] at p; exact p) fun e1 => by rw [e1] at p; exact p
  simp only [e1, Er.bind] at p
  obtain ⟨a, o, rfl, ha, mu, _, hA, z, ez, hz⟩ := o1.dsFz hs
  rw [ez] at p
  refine ⟨a, o, rfl, ha, mu, fun od => ?_⟩
  obtain ⟨R2, x2⟩ := R1.step (q := c.q) (k := σ.length) (A := fun _ => False) (H' := upd H1 a (.frz od o)) (ρ' := ρ1) (σ' := σ) (ss' := ss) (fun _ z => z.elim) (fun _ z => z.elim)
    (fun b u na e => by rw [upd_ne (fun y => na (by rw [y]; exact (hA a).mpr rfl))]; exact e) R1.len (fun _ _ => rfl) (fun y => by rw [hqq] at y; cases y)
    (fun j d e hj => by
      obtain ⟨v, q1, q2⟩ := R1.row j d e
      exact ⟨v, q1, .inl ⟨e, q1, rfl⟩⟩)
    (fun d e => by rw [← R1.len, List.getElem?_eq_none (Nat.le_refl _)] at e; cases e)
  refine p (.ref a) _ _ (x1.trans x2) R2 (.fz (hz _ od (fun b u e => ?_) (mask_some.mpr ⟨fun y => ?_, upd_same⟩)) fun b => by rw [setA_same]; exact fun y => y)
  · obtain ⟨n1, n2⟩ := mask_some.mp e
    refine mask_some.mpr ⟨fun y => n1 ?_, ?_⟩
    · rcases y with y | ⟨j, y⟩
      · exact .inl y
      · rcases setA_imp y with ⟨_, y⟩ | ⟨_, y⟩
        · exact y.elim
        · exact .inr ⟨j, y⟩
    · rw [upd_ne (fun y => n1 (.inr ⟨σ.length, by rw [y]; exact (hA a).mpr rfl⟩))]; exact n2
  · rcases y with y | ⟨j, y⟩
    · exact R1.nb _ a ((hA a).mpr rfl) y
    · rcases setA_imp y with ⟨_, y⟩ | ⟨hj, y⟩
      · exact y.elim
      · exact hj (R1.dj j _ a y ((hA a).mpr rfl))
/-! a walk over its keys -/
def iKeysD (e : EM Dt) : EM (List Dt) := fun ρ => (e ρ).bind fun d ρ1 => match d with | .rdc l => .ok (l.map (·.1)) ρ1 | _ => .stuck
theorem si_keys (h : SE cl K c ss .fz te e) : SI cl K c ss (iKeys te) (iKeysD e) := fun B Ai ρ σ H Q R p => by
  unfold iKeysD at p
  refine h.use R (fun d ρ1 e1 v Ai1 H1 x1 R1 o1 => ?_) (fun x ρ1 e1 => by rw [e1] at p; exact p) fun e1 => by rw [e1] at p; exact p
  simp only [e1, Er.bind] at p
  cases d with
  | rdc l =>
    cases o1.fzAt.1 with
    | @rdc a xs _ h1 h2 hk h3 =>
      obtain ⟨o, h1⟩ := h1
      refine ⟨a, o, rfl, .inl ⟨xs, mask_same _ _ h1, p _ Ai1 H1 x1 R1 fun M2 H2 s1 s2 => ⟨fun i hi => ⟨s2 _ _ (s1 _ _ h1), by rw [List.length_map] at hi; rw [h2]; exact hi⟩, fun i d ed => ?_⟩⟩⟩
      rw [List.getElem?_map] at ed
      cases el : l[i]? with
      | none => rw [el] at ed; cases ed
      | some q =>
        rw [el] at ed
        cases ed
        have hi : i < xs.length := by rw [h2]; exact (List.getElem?_eq_some_iff.mp el).1
        refine ⟨⟨s2 _ _ (s1 _ _ h1), hi⟩, fun x H3 hy => ?_⟩
        obtain ⟨rfl, k, v, hx, rfl⟩ := hy
        have := hk i k v q.1 q.2 hx el
        show Res cl K M2 H3 (kV k) H3 q.1
        rw [this]
        refine .old ?_
        cases k with
        | inl i => exact .int i
        | inr i => exact .str i
  | _ => exact p.elim
/-! sorted(d), the keys numbers -/
theorem cr_sortedDIK {X : Cx} (hc : X.calm = true := by rfl) : CallR X (.builtin "sorted") (fun xs H Q => ∃ (a : Addr) (kvs : List (Key × V)) (ks : List Int), xs = [.ref a] ∧ Rd H a (.dK kvs) ∧ kvs.map (·.1) = ks.map Sum.inl ∧ ks.length < 64 ∧
    ∀ (ys : List Int) (p : Addr), ys.Perm ks → ys.Pairwise (· ≤ ·) → H p = none → Q (.ref p) (upd H p (.lst (ys.map V.int)))) := call_sortedDI hc
def sortedDD : List Dt → Option Dt
  | [x] => match dicI x with | some l => (match intsD (l.map (·.1)) with | some ns => if ns.length < 64 then some (.lst ((sortI ns).map .int)) else none | none => none) | none => none
  | _ => none
theorem on_sortedD : OpN cl K (.ls .fz) sortedDD (fun xs H Q => ∃ (a : Addr) (kvs : List (Key × V)) (ks : List Int), xs = [.ref a] ∧ Rd H a (.dK kvs) ∧ kvs.map (·.1) = ks.map Sum.inl ∧ ks.length < 64 ∧
    ∀ (ys : List Int) (p : Addr), ys.Perm ks → ys.Pairwise (· ≤ ·) → H p = none → Q (.ref p) (upd H p (.lst (ys.map V.int)))) := fun M H vs ds z Q sm hb e q => by
  unfold sortedDD at e
  split at e
  · split at e
    · rename_i l hll
      split at e
      · rename_i ns hn
        split at e
        · rename_i h64
          cases e
          obtain ⟨v, rfl, h⟩ := hb.one
          obtain ⟨a, xs, rfl, a1, a2⟩ := h.dict sm hll
          have hn := intsD_at hn
          refine ⟨a, xs, ns, rfl, a1, ?_, h64, fun ys p hp hs n => ?_⟩
          · apply List.ext_getElem?
            intro i
            rw [List.getElem?_map, List.getElem?_map]
            rcases Nat.lt_or_ge i xs.length with hi | hi
            · have e1 : xs[i]? = some (xs[i].1, xs[i].2) := List.getElem?_eq_getElem hi
              have hi2 : i < l.length := by rw [← a2.1]; exact hi
              have e2 : l[i]? = some (l[i].1, l[i].2) := List.getElem?_eq_getElem hi2
              have e3 : (l.map (·.1))[i]? = some l[i].1 := by rw [List.getElem?_map, e2]; rfl
              have e4 := a2.2.1 i _ _ _ _ e1 e2
              rw [hn, List.getElem?_map] at e3
              rw [e1]
              cases en : ns[i]? with
              | none => rw [en] at e3; cases e3
              | some j =>
                rw [en] at e3
                have e5 : Dt.int j = l[i].1 := Option.some.inj e3
                rw [← e5] at e4
                cases hk : xs[i].1 with
                | inl m => rw [hk] at e4; simp [kD] at e4; subst e4; simp [hk]
                | inr m => rw [hk] at e4; simp [kD] at e4
            · have : ns.length = l.length := by have := congrArg List.length hn; simpa using this.symm
              rw [List.getElem?_eq_none hi, List.getElem?_eq_none (by rw [this, ← a2.1]; exact hi)]
              rfl
          · rw [sorted_one (hp.trans (sortI_perm ns).symm) hs (sortI_sorted ns)]
            exact q p _ n rfl (NewO.lstA (ats_ints _))
        · cases e
      · cases e
    · cases e
  · cases e
end
/-! ### dicts: the rules' other forms -/
theorem hu1 {k : Nat} {A : Around} (r : Room k A) : A.units + 1 < cLine := by have := r.un; omega
theorem pe_dgetK {X : Cx} {o i : Expr} {pos : Pos} {td ty : TE} (hu : X.A.units + 1 < cLine) (ho : PE X o td) (hi : PE X i ty) (hs : NoSl i := by exact fun _ _ => rfl) : PE X (.Subscript o i pos) (tOp rDGet td ty) := pe_dget hu ho hi hs
theorem pe_dget2K {X : Cx} {o e f : Expr} {apos cpos : Pos} {td ty tx : TE} (hu : X.A.units + 1 < cLine) (ho : PE X o td) (he : PE X e ty) (hf : PE X f tx)
    (h1 : attributeBase o "get" X.env (eval o X.env) = eval o X.env := by rfl)
    (h2 : ((backTo cpos (starEach [e, f] X.env)).all (fun x => !x.1) && (backToKw cpos (keywordEach [] X.env)).all (fun x => x.1.isSome) && decide (([e, f] : List Expr).length + ([] : List Keyword).length + (if ([] : List Keyword).isEmpty then 0 else 1) < 30)) = true := by rfl)
    (h3 : (apos.endLine == cpos.line) = true := by rfl) (h4 : backTo cpos (starEach [e, f] X.env) = [(false, eval e X.env), (false, eval f X.env)] := by rfl) : PE X (.Call (.Attribute o "get" apos) [e, f] [] cpos) (tDGet2 td ty tx) := pe_dget2 hu ho he hf ⟨h1, h2, h3, h4⟩
theorem ps_dputK {X : Cx} {o i value : Expr} {pos pos' : Pos} {td ty tv : TE} (hu : X.A.units + 1 < cLine) (ho : PE X o td) (hi : PE X i ty) (hv : PE X value tv) (hs : swapsWith value (some (.Subscript o i pos')) pos.line X.env = pure false := by rfl) :
    PS X (.Assign [.Subscript o i pos'] value pos) (L2.sDPut td ty tv) := ps_dput hu ho hi hv hs
/-! ### fields of what a name holds: stores of other kinds -/
def gAttr (K : PySem.W.Frag) (ta : TE) (f : Str) : TG := fun v σ H Q => ta σ H fun x H1 => ∃ a C dx fs, x = .ref a ∧ H1 a = some (.ins C dx fs) ∧ Cls K C ∧ NoAttr K C f ∧ fs.length < 1000 ∧ Q σ (upd H1 a (.ins C dx (putF f v fs)))
theorem pg_attr {X : Cx} {o : Expr} {f : Str} {pos : Pos} {ta : TE} (K : PySem.W.Frag) (ha : PE X o ta) (eK : X.K = K := by rfl)
    (hs : ∀ v, assign (.Attribute o f pos) X.env v = (do
      let ov ← holding [v] (eval o X.env)
      standAt pos.atName
      holding [v, ov] (setAttr ov f v)
      release [v, ov] []) := by intro _; rfl) : PG X (.Attribute o f pos) (gAttr K ta f) := by
  subst eK
  refine ⟨fun pins s σ H v u Q I r h => ?_⟩
  rw [hs]
  refine wpAny_bind (wpAny_holding (thn (ha.run pins s σ H _ I h) fun ov s1 ⟨x, H1, I1, r1, a, C, dx, fs, ex, ea, c, n, l, q⟩ => ?_))
  subst ex
  obtain rfl : ov = Value.ref a := r1
  refine wpAny_bind (wpAny_standAt (wpAny_bind (wpAny_holding (setattr_ok I1 ea c n l r fun s2 I2 => ?_))))
  exact wpAny_release ⟨σ, _, I2, q⟩
def gFldS (i : Nat) (cs : List Str) (g : Str) : Dt → Env → Option Env := fun d ρ => match gv ρ i with
  | some (.obj cn fs) => if cs.contains cn && decide (fs.length < 1000) then some (ρ.set i (some (.obj cn (setFD g d fs)))) else none
  | _ => none
section
variable (cl : Str → Option Addr) (K : PySem.W.Frag) (c : Fx)
/-- a target that may store in what is held -/
def SGH (ss ss' : Ss) (t : TG) (g : Dt → Env → Option Env) : Prop := ∀ B Ai ρ σ H v d ρ' (Q : L2.St → Hp → Prop), Rep cl K c.F B Ai ss ρ σ H → At cl K (MH B Ai H) v d → g d ρ = some ρ' →
  (∀ σ' Ai' H', Ext c.q B Ai H Ai' H' → Rep cl K c.F B Ai' ss' ρ' σ' H' → (∀ i, c.kp i = true → σ'[i]? = σ[i]?) → Q σ' H') → t v σ H Q
def SGHs (ss ss' : Ss) (t : TGs) (g : List (Dt → Env → Option Env)) : Prop := ∀ B Ai ρ σ H vs ds ρ' (Q : L2.St → Hp → Prop), Rep cl K c.F B Ai ss ρ σ H → vs.length = ds.length → (∀ (i : Nat) v d, vs[i]? = some v → ds[i]? = some d → At cl K (MH B Ai H) v d) → gAll g ds ρ = some ρ' →
  (∀ σ' Ai' H', Ext c.q B Ai H Ai' H' → Rep cl K c.F B Ai' ss' ρ' σ' H' → (∀ i, c.kp i = true → σ'[i]? = σ[i]?) → Q σ' H') → t vs σ H Q
end
section
variable {cl : Str → Option Addr} {K : PySem.W.Frag} {F : FP} {c : Fx} {B : Addr → Prop} {Ai Ai' : Nat → Addr → Prop} {ss ss' ss1 : Ss} {ρ ρ' : Env} {σ : L2.St} {M H H' : Hp} {v : V} {d z : Dt} {s : Sh} {A : Addr → Prop} {xs : List (Key × V)} {l : List (Dt × Dt)} {k : Key} {p : Addr}
  {t ta tb td ti te : TE} {e e' a b kk : EM Dt} {as : List AE} {tA : TA} {u1 : TS} {s1 : SM} {g : Str} {tg : TG} {tgs : TGs} {gd : Dt → Env → Option Env} {gs : List (Dt → Env → Option Env)}
theorem sgh_of (h : SG cl K c ss ss' tg gd) : SGH cl K c ss ss' tg gd := fun B Ai ρ σ H v d ρ' Q R hv e q => h B Ai ρ σ H v d ρ' Q R hv e fun σ' Ai' x R' k => q σ' Ai' H x R' k
theorem sgh_fld {i : Nat} {cs : List Str} (hc : FldOk cl K cs g) (hob : (sh ss i).isOb = true := by rfl) (hs' : (sh ss i).fld g = .fz := by rfl) (hqq : c.q = false := by rfl) : SGH cl K c ss ss (gAttr K (tVar i) g) (gFldS i cs g) := fun B Ai ρ σ H v d ρ' Q R hv e q => by
  unfold gFldS at e
  cases e0 : gv ρ i with
  | none => rw [e0] at e; cases e
  | some d0 =>
    rw [e0] at e
    cases d0 with
    | obj cn fs =>
      simp only at e
      split at e
      · rename_i hcn
        cases e
        simp only [Bool.and_eq_true, decide_eq_true_eq] at hcn
        obtain ⟨Ai1, x1, R1, o1⟩ := R.res (q := c.q) (.old hv)
        obtain ⟨w, w1, w2⟩ := R1.get (gv_some e0)
        obtain ⟨q0, C, dx, xs, rfl, q1, q2, q3, q4⟩ := w2.obLen hob
        obtain ⟨k1, k2⟩ := hc cn hcn.1 C q2
        have hset : okSet ss i (sh ss i) ss = true := by
          unfold okSet
          simp
        obtain ⟨Ai2, x2', R2⟩ := R1.setF (gv_some e0) hob w1 q1 o1 hset (.inr ⟨hs', rfl⟩)
        have x2 := x2'.fq hqq
        exact ⟨.ref q0, w1, q0, C, dx, xs, rfl, q1, k1, k2, by rw [q3]; exact hcn.2, q σ Ai2 _ (x1.trans x2) R2 fun _ _ => rfl⟩
      · cases e
    | _ => cases e
theorem sgh_nil : SGHs cl K c ss ss gNil [] := fun B Ai ρ σ H vs ds ρ' Q R hl h e q => by
  cases ds with
  | nil => cases e; exact ⟨List.length_eq_zero_iff.mp hl, q σ Ai H .refl R fun _ _ => rfl⟩
  | cons d ds => cases e
theorem sgh_cons (h1 : SGH cl K c ss ss1 tg gd) (h2 : SGHs cl K c ss1 ss' tgs gs) : SGHs cl K c ss ss' (gCons tg tgs) (gd :: gs) := fun B Ai ρ σ H vs ds ρ' Q R hl h e q => by
  cases ds with
  | nil => cases e
  | cons d ds =>
    cases vs with
    | nil => cases hl
    | cons v vs =>
      unfold gAll at e
      cases e1 : gd d ρ with
      | none => rw [e1] at e; cases e
      | some ρ1 =>
        rw [e1] at e
        refine ⟨v, vs, rfl, h1 B Ai ρ σ H v d ρ1 _ R (h 0 v d rfl rfl) e1 fun σ1 Ai1 H1 x1 R1 k1 => ?_⟩
        exact h2 B Ai1 ρ1 σ1 H1 vs ds ρ' Q R1 (by simpa using hl) (fun i v' d' a b => (h (i + 1) v' d' (by simpa using a) (by simpa using b)).mono x1.same) e fun σ2 Ai2 H2 x2 R2 k2 => q σ2 Ai2 H2 (x1.trans x2) R2 fun i hi => (k2 i hi).trans (k1 i hi)
theorem sgh_tup {n : Nat} (h : SGHs cl K c ss ss' tgs gs) (hn : gs.length = n := by rfl) : SGH cl K c ss ss' (gTup K n tgs) (gTupD gs) := fun B Ai ρ σ H v d ρ' Q R ha e q => by
  unfold gTupD at e
  cases d with
  | tup ds =>
    obtain ⟨a, xs, rfl, h1, h2, h3⟩ := (Bor.at ha (H := H)).tup mask_same
    exact ⟨a, xs, rfl, h1, by rw [h2, gAll_len e, hn], h B Ai ρ σ H xs ds ρ' Q R h2 h3 e q⟩
  | _ => cases e
theorem ss_unH (h : SE cl K c ss .fz te e) (hg : SGH cl K c ss ss' tg gd) : SS cl K c ss ss' (tAsg te tg) (sUn e gd) := fun B Ai ρ σ H D R p => by
  unfold sUn at p
  refine h.use R (fun d ρ1 e1 v Ai1 H1 x1 R1 o1 => ?_) (fun x ρ1 e1 => by rw [e1] at p; exact p) fun e1 => by rw [e1] at p; exact p
  simp only [e1, Er.go] at p
  cases e2 : gd d ρ1 with
  | none => rw [e2] at p; exact p.elim
  | some ρ2 =>
    rw [e2] at p
    exact hg B Ai1 ρ1 σ H1 v d ρ2 _ R1 o1.fzAt.1 e2 fun σ2 Ai2 H2 x2 R2 k2 => p σ2 Ai2 H2 (x1.trans x2) R2 k2
/-! self.f[k] = e, a list -/
def sPutF (cs : List Str) (i : Nat) (g : Str) (k : EM Dt) (e : EM Dt) : SM := fun ρ => (e ρ).go fun d ρ1 => match gv ρ1 i with
  | some (.obj cn fs) => if cs.contains cn then (match fs.lookup g with
    | some (.lst _) => (k ρ1).go fun z ρ2 => (match gv ρ2 i, z with
      | some (.obj cn2 fs2), .int n => (match fs2.lookup g with
        | some (.lst l) => (match ixN l.length n with | some j => .nx (ρ2.set i (some (.obj cn2 (setFD g (.lst (l.set j d)) fs2)))) | none => .stuck)
        | _ => .stuck)
      | _, _ => .stuck)
    | _ => .stuck) else .stuck
  | _ => .stuck
theorem ss_putF {i : Nat} {cs : List Str} (hc : FldOk cl K cs g) (h : SE cl K c ss .fz te e) (hk : SE cl K c.quiet ss .fz ti kk) (ho : (sh ss i).isOb = true := by rfl) (hs : (sh ss i).fld g = .ls .fz := by rfl) (hqq : c.q = false := by rfl) :
    SS cl K c ss ss (tAsg te (gSub (tFld K (tVar i) g) ti rSetL)) (sPutF cs i g kk e) := fun B Ai ρ σ H D R p => by
  unfold sPutF at p
  refine h.use R (fun d ρ1 e1 v Ai1 H1 x1 R1 o1 => ?_) (fun x ρ1 e1 => by rw [e1] at p; exact p) fun e1 => by rw [e1] at p; exact p
  simp only [e1, Er.go] at p
  cases e0 : gv ρ1 i with
  | none => rw [e0] at p; exact p.elim
  | some d0 =>
    rw [e0] at p
    cases d0 with
    | obj cn fs =>
      simp only at p
      split at p
      · rename_i hcn
        cases e9 : fs.lookup g with
        | none => rw [e9] at p; exact p.elim
        | some d9 =>
          rw [e9] at p
          cases d9 with
          | lst l9 =>
            simp only at p
            obtain ⟨v0, h1, h2⟩ := R1.get (gv_some e0)
            obtain ⟨q, C, dx, xs, rfl, q1, q2, q3, q4⟩ := h2.obLen ho
            obtain ⟨k1, k2⟩ := hc cn hcn C q2
            obtain ⟨w, A', hw, hown⟩ := h2.field (f := g) ho q1 e9 (x := V.non)
            rw [hs] at hown
            obtain ⟨q', ys, rfl, hq', _, _⟩ := hown.lsFz
            refine ⟨.ref q, h1, q, C, dx, xs, .ref q', rfl, q1, k1, k2, hw, hk.use R1 (fun z ρ2 e2 u Ai2 H2 x2 R2 o2 => ?_) (fun x ρ2 e2 => by rw [e2] at p; exact XPost.quiet (XPost.ext x1 p)) fun e2 => by rw [e2] at p; exact p⟩
            simp only [e2] at p
            split at p
            · rename_i cn2 fs2 n ed
              split at p
              · rename_i l el
                split at p
                · rename_i j hj
                  obtain ⟨v', g1, g2⟩ := R2.get (gv_some ed)
                  rw [h1] at g1
                  cases g1
                  have q1' := x2.qt rfl _ _ q1
                  obtain ⟨w2, A2, hw2, hown2⟩ := g2.field (f := g) ho q1' el (x := V.non)
                  rw [hw] at hw2
                  cases hw2
                  rw [hs] at hown2
                  obtain ⟨q'', zs, eq, hq2, hzs, _⟩ := hown2.lsFz
                  cases eq
                  obtain rfl := Bor.int (.at o2.fzAt.1) (H := H2)
                  have hset := hzs.set j (o1.fzAt.1.mono x2.same)
                  obtain ⟨Ai3, x3', R3⟩ := R2.mutFN (o := .lst (zs.set j v)) (gv_some ed) ho el (by rw [hs]; rfl) (by rw [hs]; decide) ⟨q, C, dx, xs, h1, q1', hw⟩ (by rw [hs]; rfl) (.lst hset.1 hset.2)
                  have x3 := x3'.fq hqq
                  exact ⟨q', zs, n, j, rfl, rfl, hq2, by rw [hzs.1]; exact hj, p σ Ai3 _ ((x1.trans (Ext.to x2)).trans x3) R3 fun _ _ => rfl⟩
                · exact p.elim
              · exact p.elim
            · exact p.elim
          | _ => exact p.elim
      · exact p.elim
    | _ => exact p.elim
/-! self.f[k] = e, a dict -/
def sDPutF (cs : List Str) (i : Nat) (g : Str) (k : EM Dt) (e : EM Dt) : SM := fun ρ => (e ρ).go fun d ρ1 => match gv ρ1 i with
  | some (.obj cn fs) => if cs.contains cn then (match fs.lookup g with
    | some (.dic _) => (k ρ1).go fun z ρ2 => (match gv ρ2 i, keyD z with
      | some (.obj cn2 fs2), some k => (match fs2.lookup g with
        | some (.dic l) => if l.length < 16777216 then .nx (ρ2.set i (some (.obj cn2 (setFD g (.dic (putL l k d)) fs2)))) else .stuck
        | _ => .stuck)
      | _, _ => .stuck)
    | _ => .stuck) else .stuck
  | _ => .stuck
theorem ss_dputF {i : Nat} {cs : List Str} (hc : FldOk cl K cs g) (h : SE cl K c ss .fz te e) (hk : SE cl K c.quiet ss .fz ti kk) (ho : (sh ss i).isOb = true := by rfl) (hs : (sh ss i).fld g = .dc .fz := by rfl) (hqq : c.q = false := by rfl) :
    SS cl K c ss ss (L2.sDPut (tFld K (tVar i) g) ti te) (sDPutF cs i g kk e) := fun B Ai ρ σ H D R p => by
  unfold sDPutF at p
  refine h.use R (fun d ρ1 e1 v Ai1 H1 x1 R1 o1 => ?_) (fun x ρ1 e1 => by rw [e1] at p; exact p) fun e1 => by rw [e1] at p; exact p
  simp only [e1, Er.go] at p
  cases e0 : gv ρ1 i with
  | none => rw [e0] at p; exact p.elim
  | some d0 =>
    rw [e0] at p
    cases d0 with
    | obj cn fs =>
      simp only at p
      split at p
      · rename_i hcn
        cases e9 : fs.lookup g with
        | none => rw [e9] at p; exact p.elim
        | some d9 =>
          rw [e9] at p
          cases d9 with
          | dic l9 =>
            simp only at p
            obtain ⟨v0, h1, h2⟩ := R1.get (gv_some e0)
            obtain ⟨q, C, dx, xs, rfl, q1, q2, q3, q4⟩ := h2.obLen ho
            obtain ⟨k1, k2⟩ := hc cn hcn C q2
            obtain ⟨w, A', hw, hown⟩ := h2.field (f := g) ho q1 e9 (x := V.non)
            rw [hs] at hown
            obtain ⟨q', ys, l', rfl, _, hq', _, _⟩ := hown.dicFz
            refine ⟨.ref q, h1, q, C, dx, xs, .ref q', rfl, q1, k1, k2, hw, hk.use R1 (fun z ρ2 e2 u Ai2 H2 x2 R2 o2 => ?_) (fun x ρ2 e2 => by rw [e2] at p; exact XPost.quiet (XPost.ext x1 p)) fun e2 => by rw [e2] at p; exact p⟩
            simp only [e2] at p
            split at p
            · rename_i cn2 fs2 k ed ek
              split at p
              · rename_i l el
                split at p
                · rename_i hl
                  obtain ⟨v', g1, g2⟩ := R2.get (gv_some ed)
                  rw [h1] at g1
                  cases g1
                  have q1' := x2.qt rfl _ _ q1
                  obtain ⟨w2, A2, hw2, hown2⟩ := g2.field (f := g) ho q1' el (x := V.non)
                  rw [hw] at hw2
                  cases hw2
                  rw [hs] at hown2
                  obtain ⟨q'', zs, l2, eq, el2, hq2, hzs, _⟩ := hown2.dicFz
                  cases eq
                  cases el2
                  obtain ⟨rfl, rfl⟩ := keyD_at o2.fzAt.1 ek
                  have hput := hzs.put (k := k) (o1.fzAt.1.mono x2.same)
                  obtain ⟨Ai3, x3', R3⟩ := R2.mutFN (o := .dK (putK zs k v)) (d' := .dic (putL l k d)) (gv_some ed) ho el (by rw [hs]; rfl) (by rw [hs]; decide) ⟨q, C, dx, xs, h1, q1', hw⟩ (by rw [hs]; rfl) (.dic hput.1 hput.2.1 hput.2.2)
                  have x3 := x3'.fq hqq
                  exact ⟨q', _, rfl, .k hq2 (line_lt (by rw [hzs.1]; exact hl)), p σ Ai3 _ ((x1.trans (Ext.to x2)).trans x3) R3 fun _ _ => rfl⟩
                · exact p.elim
              · exact p.elim
            · exact p.elim
          | _ => exact p.elim
      · exact p.elim
    | _ => exact p.elim
/-! self.f op= e (a field that may be shared) -/
def sAugF (cs : List Str) (i : Nat) (g : Str) (f : List Dt → Option Dt) (e : EM Dt) : SM := fun ρ => match gv ρ i with
  | some (.obj cn fs) => if cs.contains cn && decide (fs.length < 1000) then (match fs.lookup g with
    | some x => (e ρ).go fun y ρ1 => (match gv ρ1 i, f [x, y] with
      | some (.obj cn2 fs2), some z => if cs.contains cn2 && decide (fs2.length < 1000) then .nx (ρ1.set i (some (.obj cn2 (setFD g z fs2)))) else .stuck
      | _, _ => .stuck)
    | none => .stuck) else .stuck
  | _ => .stuck
theorem ss_augF {i : Nat} {cs : List Str} {f : List Dt → Option Dt} {r : TIp} (hc : FldOk cl K cs g) (hf : OpS cl K f (fun vs H Q => match vs with | [x, y] => r x y H Q | _ => False)) (h : SE cl K c.quiet ss .fz te e) (ho : (sh ss i).isOb = true := by rfl) (hs : (sh ss i).fld g = .fz := by rfl) (hqq : c.q = false := by rfl) :
    SS cl K c ss ss (sFldAug K (tVar i) te r g) (sAugF cs i g f e) := fun B Ai ρ σ H D R p => by
  unfold sAugF at p
  cases e0 : gv ρ i with
  | none => rw [e0] at p; exact p.elim
  | some d0 =>
    rw [e0] at p
    cases d0 with
    | obj cn fs =>
      simp only at p
      split at p
      · rename_i hcn
        simp only [Bool.and_eq_true, decide_eq_true_eq] at hcn
        cases e9 : fs.lookup g with
        | none => rw [e9] at p; exact p.elim
        | some d9 =>
          rw [e9] at p
          simp only at p
          obtain ⟨v0, h1, h2⟩ := R.get (gv_some e0)
          obtain ⟨q, C, dx, xs, rfl, q1, q2, q3, q4⟩ := h2.obLen ho
          obtain ⟨k1, k2⟩ := hc cn hcn.1 C q2
          obtain ⟨w, A', hw, hown⟩ := h2.field (f := g) ho q1 e9 (x := V.non)
          rw [hs] at hown
          refine ⟨.ref q, h1, q, C, dx, xs, w, rfl, q1, k1, k2, hw, h.use R (fun y ρ1 e1 u Ai1 H1 x1 R1 o1 => ?_) (fun x ρ1 e1 => by rw [e1] at p; exact XPost.quiet p) fun e1 => by rw [e1] at p; exact p⟩
          simp only [e1, Er.go] at p
          split at p
          · rename_i cn2 fs2 z ed ez
            split at p
            · rename_i hcn2
              simp only [Bool.and_eq_true, decide_eq_true_eq] at hcn2
              obtain ⟨v', g1, g2⟩ := R1.get (gv_some ed)
              rw [h1] at g1
              cases g1
              have q1' := x1.qt rfl _ _ q1
              obtain ⟨q', C', dx', xs', eq, p1, p2, p3, p4⟩ := g2.obLen ho
              cases eq
              rw [q1'] at p1
              cases p1
              refine hf _ H1 [w, u] [d9, y] z _ mask_same (.cons (.at (hown.fzAt.1.mono x1.same)) (.cons (.at o1.fzAt.1) .nil)) ez fun u2 H2 hu => ?_
              obtain ⟨Ai2, x2, R2, o2⟩ := R1.res (q := c.q) hu
              have hset : okSet ss i (sh ss i) ss = true := by
                unfold okSet
                simp
              have q2' : H2 q = some (.ins C dx xs) := by
                cases hu with
                | old _ => exact q1'
                | new n _ => rw [upd_ne (ne_of_none q1' n)]; exact q1'
              obtain ⟨Ai3, x3', R3⟩ := R2.setF (gv_some ed) ho h1 q2' o2 hset (.inr ⟨hs, rfl⟩)
              have x3 := x3'.fq hqq
              exact ⟨dx, xs, q2', by rw [q3]; exact hcn.2, p σ Ai3 _ (((Ext.to x1).trans x2).trans x3) R3 fun _ _ => rfl⟩
            · exact p.elim
          · exact p.elim
      · exact p.elim
    | _ => exact p.elim
theorem os_addR : OpS cl K addI (fun vs H Q => match vs with | [x, y] => rAdd x y H Q | _ => False) := fun M H vs ds z Q sm hb e q => by
  unfold addI at e
  split at e
  · cases e
    obtain ⟨v, w, rfl, h1, h2⟩ := hb.two
    exact ⟨_, _, h1.int, h2.int, q _ _ (.old (.int _))⟩
  · cases e
theorem os_subR : OpS cl K subI (fun vs H Q => match vs with | [x, y] => rSub x y H Q | _ => False) := fun M H vs ds z Q sm hb e q => by
  unfold subI at e
  split at e
  · cases e
    obtain ⟨v, w, rfl, h1, h2⟩ := hb.two
    exact ⟨_, _, h1.int, h2.int, q _ _ (.old (.int _))⟩
  · cases e
end
theorem ps_fldaugK {X : Cx} {o value : Expr} {f : Str} {pos tpos : Pos} {ta tv : TE} (K : PySem.W.Frag) {op : Operator} {rd : V → V → Hp → VK → Prop} (hop : InOp X op rd) (ha : PE X o ta) (hv : PE X value tv) (eK : X.K = K := by rfl) : PS X (.AugAssign (.Attribute o f tpos) op value pos) (sFldAug K ta tv rd f) := by
  subst eK; exact ps_fldaug ha hv hop
/-! ### what is never reached -/
def sNever : SM := fun _ => .stuck
def tNever : TS := fun _ _ _ => False
theorem ps_never {X : Cx} {st : Stmt} : PS X st tNever := ⟨fun _ _ _ _ _ _ h => h.elim⟩
theorem ss_never {cl : Str → Option Addr} {K : PySem.W.Frag} {c : Fx} {ss ss' : Ss} : SS cl K c ss ss' tNever sNever := fun _ _ _ _ _ _ _ p => p
/-! ### len(set(numbers)), text.index, list(range(..)) -/
section
variable {X : Cx} {tA : TA}
def rLenSet (K : PySem.W.Frag) : List V → Hp → VK → Prop := fun vs H Q => ∃ (l : Addr) (ns : List Int), vs = [V.ref l] ∧ SqL K H l (ns.map V.int) ∧ ns.length ≤ 4000 ∧ Q (.int (ns.eraseDups.length : Nat)) H
theorem pe_lenSetK (K : PySem.W.Frag) {a : Expr} {p p2 q pos : Pos} (hg : Gl X "len") (hm : X.mg "len" = none) (hg2 : Gl X "set") (hm2 : X.mg "set" = none) (ha : PA X [a] tA) (eK : X.K = K := by rfl) (hc : X.calm = true := by rfl)
    (na : starEach [a] X.env = (false, eval a X.env) :: starEach [] X.env := by rfl) : PE X (.Call (.Name "len" p) [.Call (.Name "set" p2) [a] [] q] [] pos) (tOpA (rLenSet K) tA) := by
  subst eK
  refine ⟨fun pins s σ H Q I h => ?_⟩
  refine Call_ (ld_blt I hg hm PySem.boot_len ?_)
  refine PyProof.Rows.callWith_builtin1 (PyProof.Rows.args_cons ?_ rfl) rfl rfl
  refine Call_ (ld_blt I hg2 hm2 PyProof.Rows.boot_set ?_)
  refine PyProof.Rows.callWith_type1 (thn (ha.run q pins s σ H _ I h) fun us s1 ⟨vs, H1, I1, r1, q1⟩ => ?_) na rfl
  obtain ⟨l, ns, rfl, hq, hl, q1⟩ := q1
  rw [Vals.ref1 r1]
  obtain ⟨its, r, pl, hz⟩ := I1.list hq
  have hlen : its.toArray.size = ns.length := by rw [List.size_toArray, ← r.length, List.length_map]
  refine call_set_list (I1.ok.hd hc) pl.isList (ns := ns) (by simpa using r.ints) (by rw [hlen]; unfold scanBound; omega) fun h' tk hS hk => ?_
  refine PyProof.Rows.args_nil ?_
  rw [hlen, PySem.W.oss_met, PySem.W.oss_dups] at hS
  obtain ⟨o, es, ep, t, ho, hex, hd, _, _, _, hf, hn⟩ := hS
  have I2 : Inv X pins σ H1 { s1 with heap := h', toks := tk } := I1.kept fun b o e => hk b o (Heap.lt_size e) e
  have hle : ns.eraseDups.length ≤ ns.length := by rw [← PySem.W.oss_dups]; exact PySem.W.oss_len ns
  exact call_len_set ho hex hd hf (by rw [hn]; omega) ⟨.int (ns.eraseDups.length : Nat), H1, I2.tok _, ⟨_, by rw [hn]⟩, q1⟩
end
def lenSetD : List Dt → Option Dt
  | [d] => (match lstI d with | some l => (intsD l).bind fun ns => if ns.length ≤ 4000 then some (.int (ns.eraseDups.length : Nat)) else none | none => none)
  | _ => none
/-- text.index where it stands -/
def sidxN (a b : Str) : Option Nat := match Builtin.Str.occurrences a b 0 a.length 1 with | i :: _ => some i | [] => none
def sindexF (d : Dt) (ds : List Dt) : Option Dt := match d, ds with | .str a, [.str b] => (sidxN a b).map fun i => .int (i : Nat) | _, _ => none
/-- list(range(..)) -/
def rgB (a b : Int) : Bool := inR a && inR b && decide ((b - a).toNat ≤ 16777216)
def eRgL1 (e : EM Dt) : EM Dt := fun ρ => (e ρ).bind fun d ρ1 => match d with | .int n => if rgB 0 n = true then .ok (.lst (rngL 0 n.toNat)) ρ1 else .stuck | _ => .stuck
def eRgL2 (a b : EM Dt) : EM Dt := fun ρ => (a ρ).bind fun d ρ1 => (b ρ1).bind fun z ρ2 => match d, z with | .int n, .int m => if rgB n m = true then .ok (.lst (rngL n (m - n).toNat)) ρ2 else .stuck | _, _ => .stuck
theorem rgB_at {a b : Int} (h : rgB a b = true) : RgOk a b := by
  unfold rgB at h
  simp only [Bool.and_eq_true, decide_eq_true_eq] at h
  obtain ⟨⟨h1, h2⟩, h3⟩ := h
  exact ⟨(inR_at h1).1, (inR_at h1).2, (inR_at h2).1, (inR_at h2).2, h3⟩
theorem rngL_rg (a : Int) (n : Nat) : rngL a n = ((List.range n).map fun k : Nat => a + (k : Int)).map Dt.int := by
  induction n generalizing a with
  | zero => rfl
  | succ n ih => rw [rngL, ih, List.range_succ_eq_map]; simp; exact fun k _ => by omega
theorem rgV_map (a b : Int) : rgV a b = ((List.range (b - a).toNat).map fun k : Nat => a + (k : Int)).map V.int := by
  unfold rgV; rw [List.map_map]; rfl
section
variable {cl : Str → Option Addr} {K : PySem.W.Frag} {c : Fx} {B : Addr → Prop} {Ai Ai' : Nat → Addr → Prop} {ss : Ss} {ρ ρ' : Env} {σ : L2.St} {M H : Hp} {v : V} {d : Dt} {ta tb : TE} {e a b : EM Dt}
theorem os_lenSet : OpS cl K lenSetD (rLenSet K) := fun M H vs ds z Q sm hb e q => by
  unfold lenSetD at e
  split at e
  · split at e
    · rename_i l hl
      simp only [Option.bind_eq_some_iff] at e
      obtain ⟨ns, hn, e⟩ := e
      split at e
      · rename_i hlen
        cases e
        obtain ⟨v, rfl, h⟩ := hb.one
        obtain ⟨a, xs, rfl, a1, a2⟩ := h.lstsA sm hl
        rw [intsD_at hn] at a2
        rw [a2.ints] at a1
        exact ⟨a, ns, rfl, a1, hlen, q _ _ (.old (.int _))⟩
      · cases e
    · cases e
  · cases e
theorem bm_sindex : BmS cl K "str" isStr sindexF (fun x xs H Q => ∃ a b i rest, x = .str a ∧ xs = [.str b] ∧ Builtin.Str.occurrences a b 0 a.length 1 = i :: rest ∧ Q (.int (i : Nat)) H) where
  ty := str_ty
  op M H v d vs ds z Q sm h hl hat e q := by
    unfold sindexF at e
    split at e
    · rename_i a b
      simp only [Option.map_eq_some_iff] at e
      obtain ⟨i, hi, rfl⟩ := e
      unfold sidxN at hi
      split at hi
      · rename_i j rest ho
        cases hi
        obtain ⟨w, rfl, hw⟩ := one_of hl hat
        obtain rfl := Bor.str (.at h) (H := H)
        obtain rfl := Bor.str (.at hw) (H := H)
        exact ⟨_, _, _, rest, rfl, rfl, ho, q _ _ (.old (.int _))⟩
      · cases hi
    · cases e
theorem sn_rgL1 (h : SE cl K c ss .fz ta e) : SE cl K c ss (.ls .fz) (tLstRg (tRg1 ta)) (eRgL1 e) := fun B Ai ρ σ H Q R p => by
  unfold eRgL1 at p
  refine h.use R (fun d ρ1 e1 v Ai1 H1 x1 R1 o1 => ?_) (fun x ρ1 e1 => by rw [e1] at p; exact p) fun e1 => by rw [e1] at p; exact p
  simp only [e1, Er.bind] at p
  cases d with
  | int n =>
    dsimp only at p
    split at p
    · rename_i hb
      obtain rfl := Bor.int (.at o1.fzAt.1) (H := H1)
      refine ⟨n, rfl, rgB_at hb, fun q hq => ?_⟩
      rw [rgV_map, rngL_rg, Int.sub_zero] at *
      obtain ⟨Ai2, x2, R2, o2⟩ := R1.own hq (NewO.lstA (ats_ints _)) (fun z => nomatch z)
      exact p _ Ai2 _ (x1.trans x2) R2 o2
    · exact p.elim
  | _ => exact p.elim
theorem sn_rgL2 (h : SE cl K c ss .fz ta a) (h' : SE cl K c ss .fz tb b) : SE cl K c ss (.ls .fz) (tLstRg (tRg2 ta tb)) (eRgL2 a b) := fun B Ai ρ σ H Q R p => by
  unfold eRgL2 at p
  refine h.use R (fun d ρ1 e1 v Ai1 H1 x1 R1 o1 => ?_) (fun x ρ1 e1 => by rw [e1] at p; exact p) fun e1 => by rw [e1] at p; exact p
  simp only [e1, Er.bind] at p
  refine h'.use R1 (fun d2 ρ2 e2 v2 Ai2 H2 x2 R2 o2 => ?_) (fun x ρ1 e2 => by simp only [e2] at p; exact XPost.ext x1 p) fun e2 => by simp only [e2] at p; exact p
  simp only [e2] at p
  have b1 : Bor cl K (MH B Ai2 H2) H2 v d := .at (o1.fzAt.1.mono x2.same)
  have b2 : Bor cl K (MH B Ai2 H2) H2 v2 d2 := .at o2.fzAt.1
  cases d with
  | int n =>
    cases d2 with
    | int m =>
      dsimp only at p
      split at p
      · rename_i hb
        obtain rfl := b1.int
        obtain rfl := b2.int
        refine ⟨n, m, rfl, rfl, rgB_at hb, fun q hq => ?_⟩
        rw [rgV_map]
        rw [rngL_rg] at p
        obtain ⟨Ai3, x3, R3, o3⟩ := R2.own hq (NewO.lstA (ats_ints _)) (fun z => nomatch z)
        exact p _ Ai3 _ ((x1.trans x2).trans x3) R3 o3
      · exact p.elim
    | _ => exact p.elim
  | _ => exact p.elim
end
/-! ### list.extend by a tuple -/
theorem ext_tup (l : Addr) (items : Array Value) (n : Nat) (b : Addr) (items2 : Array Value) (hs0 : ¬(!items.isEmpty && Builtin.List.listTooLong (items.size + items2.size)) = true) (hs1 : items.size ≤ sizeLine) (hs2 : items.size + items2.size ≤ sizeLine + 1) :
    Meets (Builtin.«list.extend» ⟨[.ref l, .ref b], []⟩) (fun _ R s => s.heap.get? l = some { cls := .type "list", dict := none, data := .seq items n, slots := #[] } ∧ s.heap.IsTuple b items2 ∧ R (.ok (.ret Value.none)) { s with heap := s.heap.update l (Obj.mapSeq fun x => x ++ items2), toks := s.toks }) :=
  .of_wp fun prog w A R s h => by
    obtain ⟨hl, ⟨o, ho, hc, n2, hd⟩, h⟩ := h
    have hz' : (items ++ items2).size ≤ sizeLine + 1 := by rw [Array.size_append]; exact hs2
    show wpAny _ _ (Builtin.List.listExtendWith (.ref l) (.ref b) .none) _ _ s
    unfold Builtin.List.listExtendWith
    refine wpAny_bind (wpAny_typeOf ⟨o, ho, hc⟩ ?_)
    have h1 : (Builtin.List.listSameRef (.ref l) (.ref b) || Value.type "tuple" == Value.type "list" || Value.type "tuple" == Value.type "tuple") = true := by simp
    simp only [h1, if_true]
    refine wpAny_bind ?_
    unfold Builtin.List.listItems
    refine wpAny_bind (wpAny_seqItems ho hd (wpAny_pure ?_))
    refine wpAny_bind ?_
    refine wpAny_bind (wpAny_seqItems hl rfl (wpAny_pure ?_))
    rw [if_neg hs0]
    refine wpAny_bind (wpAny_updateSeq hl rfl (hz := hs1) (_hz' := hz') ?_)
    exact wpAny_pure ⟨_, rfl, h⟩
def rExtendT (K : PySem.W.Frag) : V → List V → Hp → VK → Prop := fun x vs H Q => ∃ l b xs zs, x = .ref l ∧ vs = [.ref b] ∧ H l = some (.lst xs) ∧ SqT K H b zs ∧ xs.length + zs.length ≤ sizeLine ∧ Q .non (upd H l (.lst (xs ++ zs)))
theorem mt_extendT {X : Cx} (K : PySem.W.Frag) (eK : X.K = K := by rfl) : MtM X "list.extend" (rExtendT K) := by
  subst eK
  intro pins s σ H x vs v us Q I rx rv h
  obtain ⟨l, b, xs, zs, rfl, rfl, hH, hB, hz, q⟩ := h
  cases rx
  obtain ⟨u, rfl, ru⟩ := rv.one
  cases ru
  obtain ⟨z, its, n, r, hl, e⟩ := I.lstM hH
  obtain ⟨its2, r2, e2, z2⟩ := I.tuple hB
  have hl2 := r2.length
  have hsz : its.toArray.size + its2.toArray.size ≤ sizeLine := by rw [List.size_toArray, List.size_toArray]; omega
  have hlong : ¬ (!its.toArray.isEmpty && Builtin.List.listTooLong (its.toArray.size + its2.toArray.size)) = true := by
    rw [notLongL hsz, Bool.and_false]
    exact Bool.false_ne_true
  refine call_meets F.slot_list_extend ⟨_, e, rfl⟩ F.entry_list_extend (F.args_list_extend_2 _ _)
    (ext_tup l its.toArray n b its2.toArray hlong (by rw [List.size_toArray]; omega) (by omega)) ⟨e, e2, ?_⟩
  refine ⟨.non, _, I.lset (its' := its ++ its2) hH e (by simp) (r.append r2) ?_, rfl, q⟩
  rw [List.length_append]
  omega
def extTD (l ds : List Dt) : Option (List Dt × Dt) := match ds with | [.tup m] => if l.length + m.length ≤ 16777216 then some (l ++ m, .non) else none | _ => none
section
variable {cl : Str → Option Addr} {K : PySem.W.Frag}
theorem mut_extT : MutS cl K extTD (rExtendT K) := fun M H p xs l l' vs ds z Q sm hp hl hb e q => by
  unfold extTD at e
  split at e
  · rename_i m
    split at e
    · rename_i hz
      cases e
      obtain ⟨v, rfl, h⟩ := hb.one
      obtain ⟨a, ys, rfl, h1, h2⟩ := h.tupA sm
      exact ⟨p, a, xs, ys, rfl, rfl, hp, h1, line_of (by rw [hl.1, h2.1]; exact hz), q _ _ (hl.app h2) .non⟩
    · cases e
  · cases e
end
/-! ### x is True, x is not False -/
def okIs : V → Bool | .non => true | .bl _ => true | .int _ => true | .str _ => true | .ref _ => true | .ty _ => true | _ => false
section
variable {X : Cx}
theorem op_isB : OpR X (compareOp .Is) (fun x y H Q => ∃ b, y = .bl b ∧ okIs x = true ∧ Q (.bl (decide (x = .bl b))) H) := by
  intro pins s σ H x y v u Q I rx ry h
  obtain ⟨b, rfl, ok, q⟩ := h
  obtain rfl : u = Value.bool b := ry
  cases x with
  | non => cases rx; exact wpAny_is_plain rfl (fin_bl I q (by cases b <;> rfl))
  | bl c => obtain rfl : v = Value.bool c := rx; exact wpAny_is_plain rfl (fin_bl I q (by cases b <;> cases c <;> rfl))
  | int i => obtain ⟨t, rfl⟩ := rx; exact wpAny_is_plain rfl (fin_bl I q (by cases b <;> rfl))
  | str i => obtain ⟨t, rfl⟩ := rx; exact wpAny_is_plain rfl (fin_bl I q (by cases b <;> rfl))
  | ref i => cases rx; exact wpAny_is_plain rfl (fin_bl I q (by cases b <;> rfl))
  | ty i => cases rx; exact wpAny_is_plain rfl (fin_bl I q (by cases b <;> rfl))
  | _ => cases ok
theorem op_notB : OpR X (compareOp .IsNot) (fun x y H Q => ∃ b, y = .bl b ∧ okIs x = true ∧ Q (.bl (!decide (x = .bl b))) H) := by
  intro pins s σ H x y v u Q I rx ry h
  obtain ⟨b, rfl, ok, q⟩ := h
  obtain rfl : u = Value.bool b := ry
  cases x with
  | non => cases rx; exact wpAny_isNot_plain rfl (fin_bl I q (by cases b <;> rfl))
  | bl c => obtain rfl : v = Value.bool c := rx; exact wpAny_isNot_plain rfl (fin_bl I q (by cases b <;> cases c <;> rfl))
  | int i => obtain ⟨t, rfl⟩ := rx; exact wpAny_isNot_plain rfl (fin_bl I q (by cases b <;> rfl))
  | str i => obtain ⟨t, rfl⟩ := rx; exact wpAny_isNot_plain rfl (fin_bl I q (by cases b <;> rfl))
  | ref i => cases rx; exact wpAny_isNot_plain rfl (fin_bl I q (by cases b <;> rfl))
  | ty i => cases rx; exact wpAny_isNot_plain rfl (fin_bl I q (by cases b <;> rfl))
  | _ => cases ok
end
def isB (d : Dt) (b : Bool) : Bool := match d with | .bl c => c == b | _ => false
def isBD : List Dt → Option Dt
  | [a, .bl b] => some (.bl (isB a b))
  | _ => none
def notBD : List Dt → Option Dt
  | [a, .bl b] => some (.bl (!isB a b))
  | _ => none
section
variable {cl : Str → Option Addr} {K : PySem.W.Frag} {M H : Hp} {v : V} {d : Dt} {b : Bool}
theorem Bor.isB (h : Bor cl K M H v d) : okIs v = true ∧ decide (v = .bl b) = isB d b := by
  cases h with
  | «at» h => cases h <;> first | exact ⟨rfl, rfl⟩ | (refine ⟨rfl, ?_⟩; rename_i c; cases c <;> cases b <;> rfl)
  | new h1 h2 h => cases h <;> exact ⟨rfl, rfl⟩
theorem os_isB : OpS cl K isBD (k2 fun x y H Q => ∃ b, y = .bl b ∧ okIs x = true ∧ Q (.bl (decide (x = .bl b))) H) := fun M H vs ds z Q sm hb e q => by
  unfold isBD at e
  split at e
  · rename_i b
    cases e
    obtain ⟨v, w, rfl, h1, h2⟩ := hb.two
    refine ⟨b, ?_, (h1.isB (b := b)).1, by rw [h1.isB.2]; exact q _ _ (.old (.bl _))⟩
    cases h2 with
    | «at» h => cases h; rfl
    | new _ _ h => cases h
  · cases e
theorem os_notB : OpS cl K notBD (k2 fun x y H Q => ∃ b, y = .bl b ∧ okIs x = true ∧ Q (.bl (!decide (x = .bl b))) H) := fun M H vs ds z Q sm hb e q => by
  unfold notBD at e
  split at e
  · rename_i b
    cases e
    obtain ⟨v, w, rfl, h1, h2⟩ := hb.two
    refine ⟨b, ?_, (h1.isB (b := b)).1, by rw [h1.isB.2]; exact q _ _ (.old (.bl _))⟩
    cases h2 with
    | «at» h => cases h; rfl
    | new _ _ h => cases h
  · cases e
end
/-! ### a new instance, made from a list that is held -/
def upS (ps : Ss) : Ss := ps.map fun q => (q.1 + 1, q.2)
theorem sh_up0 {ps : Ss} {s : Sh} {k : Nat} : sh ((0, s) :: upS ps) (k + 1) = sh ps k := by
  unfold sh upS
  rw [List.lookup_cons, show (k + 1 == 0) = false by simp]
  simp only []
  induction ps with
  | nil => rfl
  | cons p r ih =>
    rw [List.map_cons, List.lookup_cons, List.lookup_cons]
    by_cases h : k = p.1
    · subst h; simp
    · rw [show (k + 1 == p.1 + 1) = false by simpa using h, show (k == p.1) = false by simpa using h]
      exact ih
theorem sh_up {ps : Ss} {k : Nat} : sh (upS ps) (k + 1) = sh ps k := by
  unfold sh upS
  induction ps with
  | nil => rfl
  | cons p r ih =>
    rw [List.map_cons, List.lookup_cons, List.lookup_cons]
    by_cases h : k = p.1
    · subst h; simp
    · rw [show (k + 1 == p.1 + 1) = false by simpa using h, show (k == p.1) = false by simpa using h]
      exact ih
theorem sh_upZ {ps : Ss} : sh (upS ps) 0 = .fz := sh_none fun p hp => by
  unfold upS at hp
  obtain ⟨q, _, rfl⟩ := List.mem_map.mp hp
  simp
section
variable {cl : Str → Option Addr} {K : PySem.W.Frag} {c : Fx} {B : Addr → Prop} {Ai : Nat → Addr → Prop} {ss ps : Ss} {ρ ρ' : Env} {σ σ' : L2.St} {M M' H H' : Hp} {s : Sh} {tA : TA} {as : List AE} {vs dvs : List V} {ds dds : List Dt}
theorem AllOk.ownlt (h : AllOk cl K M H σ ρ as vs ds) : ∀ k i, ownIx as k = some i → i < σ.length := by
  induction h with
  | nil => intro k i e; unfold ownIx at e; simp at e
  | @cons a as v vs d ds ha hr ih =>
    intro k i e
    cases k with
    | succ k => rw [ownIx_succ] at e; exact ih k i e
    | zero =>
      unfold ownIx at e
      simp only [List.getElem?_cons_zero] at e
      cases a with
      | val x => cases e
      | fld a b c => cases e
      | own j =>
        cases e
        exact (List.getElem?_eq_some_iff.mp ha.1).1
theorem putO_app {o : Option Dt} : ∀ {as : List AE} {outs ρ : Env}, (∀ k i, ownIx as k = some i → i < ρ.length) → putO as outs (ρ ++ [o]) = putO as outs ρ ++ [o]
  | [], _, _, _ => rfl
  | .own i :: as, x :: outs, ρ, h => by
    have h0 : i < ρ.length := h 0 i rfl
    unfold putO
    rw [List.set_append_left _ _ h0]
    exact putO_app fun k j e => by rw [List.length_set]; exact h (k + 1) j (by rw [ownIx_succ]; exact e)
  | .own i :: as, [], ρ, h => by
    have h0 : i < ρ.length := h 0 i rfl
    unfold putO
    rw [List.set_append_left _ _ h0]
    exact putO_app fun k j e => by rw [List.length_set]; exact h (k + 1) j (by rw [ownIx_succ]; exact e)
  | .val e :: as, outs, ρ, h => by
    unfold putO
    exact putO_app fun k j e => h (k + 1) j (by rw [ownIx_succ]; exact e)
  | .fld a b c :: as, outs, ρ, h => by
    unfold putO
    exact putO_app fun k j e => h (k + 1) j (by rw [ownIx_succ]; exact e)
theorem AllOk.ext1 {x : Option V} {y : Option Dt} (sm : Same M M') (h : AllOk cl K M H σ ρ as vs ds) (nf : ∀ (k i : Nat) (cs : List Str) (f : Str), as[k]? ≠ some (AE.fld cs i f)) : AllOk cl K M' H' (σ ++ [x]) (ρ ++ [y]) as vs ds := by
  induction h with
  | nil => exact .nil
  | @cons a as v vs d ds ha hr ih =>
    refine .cons ?_ (ih fun k => by have := nf (k + 1); simpa using this)
    cases a with
    | val e => exact At.mono sm ha
    | own i =>
      refine ⟨?_, ?_⟩
      · rw [List.getElem?_append_left (List.getElem?_eq_some_iff.mp ha.1).1]; exact ha.1
      · have h2 := ha.2
        unfold gv at h2 ⊢
        rcases Nat.lt_or_ge i ρ.length with hl | hl
        · rw [List.getElem?_append_left hl]; exact h2
        · rw [List.getElem?_eq_none hl] at h2; cases h2
    | fld cs i f => exact absurd rfl (nf 0 i cs f)
/-- C(..): the new instance, held -/
theorem sn_makeO {px sz : Ss} {gs : Sg} {cn : Str} {C : Addr} {h : List Dt → Fq} (hC : cl cn = some C) (ha : SA cl K c ss tA as) (hd : Consts cl K dvs dds) (hps : gs.ps = (0, .ob) :: upS ps := by rfl) (hpo : gs.po = (0, s) :: upS ps := by rfl) (hpx : gs.px = upS px := by rfl) (hkA : okArgs ss ps as = true := by rfl) (hkX : okBack ss sz px as = true := by rfl) (hq : c.q = false := by rfl) (hrs : gs.rs = .fz := by rfl) (l : leS c.sx sz = true := by rfl) :
    SE cl K c ss s (tMakeS C (spD cl K gs h) dvs (WE c.W) tA) (eMake cn h as dds) := fun B Ai ρ σ H Q R p => by
  unfold eMake at p
  refine ha.use (Q := fun vs H1 => ∀ x dx, H1 x = none → H1 dx = none → dx ≠ x → _) R (fun ds ρ1 e1 vs Ai1 H1 x1 R1 ok => ?_) (fun x ρ1 e1 => by rw [e1] at p; exact p) fun e1 => by rw [e1] at p; exact p
  simp only [e1, Er.bind] at p
  intro x dx nx ndx hne
  obtain ⟨k1, k2, k3, vf⟩ := okArgs_at hkA
  obtain ⟨b1, b2⟩ := okBack_at hkX
  obtain ⟨R2, x2⟩ := R1.new (q := c.q) (o := .own x) ndx
  have nx2 : upd H1 dx (.own x) x = none := by rw [upd_ne (Ne.symm hne)]; exact nx
  obtain ⟨H3, eH3⟩ : ∃ H3, H3 = upd (upd H1 dx (.own x)) x (.ins C dx []) := ⟨_, rfl⟩
  obtain ⟨R3, x3⟩ := R2.step (q := c.q) (k := σ.length) (A := fun a => a = x) (H' := H3) (ρ' := ρ1) (σ' := σ) (ss' := ss) (fun a z => .inr (by rw [z]; exact nx2)) (fun a z => by rw [z, eH3, upd_same]; exact fun z => nomatch z)
    (fun a u _ e => by rw [eH3, upd_ne (ne_of_none e nx2)]; exact e) R2.len (fun _ _ => rfl) (fun _ a u e => by rw [eH3, upd_ne (ne_of_none e nx2)]; exact e) (fun i d e hi => by obtain ⟨v, h1, _⟩ := R2.row i d e; exact ⟨v, h1, .inl ⟨e, h1, rfl⟩⟩)
    (fun d e => by rw [← R2.len, List.getElem?_eq_none (Nat.le_refl _)] at e; cases e)
  have own0 : Own cl K (MH B (setA Ai1 σ.length fun a => a = x) H3) H3 .ob (.ref x) (.obj cn []) (setA Ai1 σ.length (fun a => a = x) σ.length) := by
    rw [setA_same]
    exact .ob (fun _ _ => False) rfl (by rw [eH3, upd_same]) hC rfl (fun k => rfl) (fun k v d a => by cases a) (fun _ _ _ z => z.elim) (fun _ z => z) (fun a => ⟨.inl, fun z => z.elim id fun ⟨_, z⟩ => z.elim⟩) fun _ _ z => z.elim
  have RP := R3.push own0
  have ok' : AllOk cl K (MH B (setA Ai1 σ.length fun a => a = x) H3) H3 (σ ++ [some (.ref x)]) (ρ1 ++ [some (.obj cn [])]) (.own σ.length :: as) (.ref x :: vs) (.obj cn [] :: ds) := by
    refine .cons ⟨by simp, by unfold gv; rw [← R3.len]; simp⟩ ?_
    exact ok.ext1 (x2.trans x3).same vf
  have hn := R3.len
  have olt := ok.ownlt
  have o0 : ownIx (.own σ.length :: as) 0 = some σ.length := rfl
  have oS : ∀ k, ownIx (.own σ.length :: as) (k + 1) = ownIx as k := fun k => ownIx_succ
  have oI : ∀ {k i}, ownIx (.own σ.length :: as) k = some i → (k = 0 ∧ i = σ.length) ∨ ∃ j, k = j + 1 ∧ ownIx as j = some i ∧ i < σ.length := fun {k i} z => by
    cases k with
    | zero => rw [o0] at z; cases z; exact .inl ⟨rfl, rfl⟩
    | succ k => rw [oS] at z; exact .inr ⟨k, rfl, z, olt k i z⟩
  have shn : ∀ {q : Sh}, sh ((σ.length, q) :: ss) σ.length = q := fun {q} => by unfold sh; simp [List.lookup_cons]
  have shl : ∀ {q : Sh} {i : Nat}, i ≠ σ.length → sh ((σ.length, q) :: ss) i = sh ss i := fun {q i} z => by unfold sh; rw [List.lookup_cons, show (i == σ.length) = false by simpa using z]
  have hk : ArgsP ((σ.length, .ob) :: ss) gs.ps (.own σ.length :: as) := by
    rw [hps]
    refine ⟨fun k i z => ?_, fun k z => ?_, fun k j i z y => ?_, fun k i cs f => ?_⟩
    · rcases oI z with ⟨rfl, rfl⟩ | ⟨j, rfl, z, zl⟩
      · rw [shn]; rfl
      · rw [sh_up0, shl (Nat.ne_of_lt zl)]; exact k1 j i z
    · cases k with
      | zero => rw [o0] at z; cases z
      | succ k => rw [sh_up0]; rw [oS] at z; exact k2 k z
    · rcases oI z with ⟨rfl, rfl⟩ | ⟨a, rfl, z, zl⟩
      · rcases oI y with ⟨rfl, _⟩ | ⟨b, rfl, y, yl⟩
        · rfl
        · omega
      · rcases oI y with ⟨rfl, rfl⟩ | ⟨b, rfl, y, yl⟩
        · omega
        · rw [k3 a b i z y]
    · cases k with
      | zero => simp
      | succ k => simpa using vf k i cs f
  have hko : BackP ((σ.length, .ob) :: ss) ((σ.length, s) :: ss) gs.po (.own σ.length :: as) := by
    rw [hpo]
    refine ⟨fun k i z => ?_, fun i z => ?_⟩
    · rcases oI z with ⟨rfl, rfl⟩ | ⟨j, rfl, z, zl⟩
      · rw [shn]; rfl
      · rw [sh_up0, shl (Nat.ne_of_lt zl)]; exact (k1 j i z).symm
    · have : i ≠ σ.length := fun y => z 0 (by rw [y, o0])
      rw [shl this, shl this]
  have shz : ∀ {q : Sh} {i : Nat}, i ≠ σ.length → sh ((σ.length, q) :: sz) i = sh sz i := fun {q i} z => by unfold sh; rw [List.lookup_cons, show (i == σ.length) = false by simpa using z]
  have shn2 : ∀ {q : Sh}, sh ((σ.length, q) :: sz) σ.length = q := fun {q} => by unfold sh; simp [List.lookup_cons]
  have hkx : BackP ((σ.length, .ob) :: ss) ((σ.length, .fz) :: sz) gs.px (.own σ.length :: as) := by
    rw [hpx]
    refine ⟨fun k i z => ?_, fun i z => ?_⟩
    · rcases oI z with ⟨rfl, rfl⟩ | ⟨j, rfl, z, zl⟩
      · rw [shn2, sh_upZ]
      · rw [sh_up, shz (Nat.ne_of_lt zl)]; exact b1 j i z
    · have : i ≠ σ.length := fun y => z 0 (by rw [y, o0])
      rw [shz this, shl this]
      exact b2 i fun k e => z (k + 1) (by rw [oS]; exact e)
  have pinl : ∀ q ∈ c.F.pins, q.1 < σ.length := fun q hq => (List.getElem?_eq_some_iff.mp (R.pin q hq)).1
  -- behind the call
  have back : ∀ {Ac : Nat → Addr → Prop} {H' : Hp} {Ai' : Nat → Addr → Prop}, Ext false (bcOf B (setA Ai1 σ.length fun a => a = x) (.own σ.length :: as)) (acOf (setA Ai1 σ.length fun a => a = x) (.own σ.length :: as)) H3 Ac H' → Ext false B (setA Ai1 σ.length fun a => a = x) H3 Ai' H' → Ext c.q B Ai1 H1 Ai' H' := fun {Ac H' Ai'} y z => by
    exact Ext.fq hq ((x2.trans x3).off.trans z)
  have RF : Rep cl K { c with q := false }.F B (setA Ai1 σ.length fun a => a = x) ((σ.length, .ob) :: ss) (ρ1 ++ [some (Dt.obj cn [])]) (σ ++ [some (.ref x)]) H3 := RP
  obtain ⟨l1, l2⟩ := ok.len
  rw [← eH3]
  show spD cl K gs h ((.ref x :: vs) ++ dvs) H3 _ _
  refine ⟨_, _, (Dt.obj cn [] :: ds) ++ dds, call_rep (c := { c with q := false }) hk hd RF ok', by simp [l1, l2, hd.1], ?_⟩
  have eset : ∀ {o : Option Dt}, (ρ1 ++ [some (Dt.obj cn [])]).set σ.length o = ρ1 ++ [o] := fun {o} => by
    rw [← hn, List.set_append_right _ _ (Nat.le_refl _), Nat.sub_self]; rfl
  cases hr : h ((Dt.obj cn [] :: ds) ++ dds) with
  | stuck => rw [show h (Dt.obj cn [] :: (ds ++ dds)) = .stuck from hr] at p; exact p
  | ok d outs =>
    rw [show h (Dt.obj cn [] :: (ds ++ dds)) = .ok d outs from hr] at p
    intro v Ac H' xx R' o
    rw [hrs] at o
    cases d with
    | non =>
      cases outs with
      | nil => exact p.elim
      | cons z outs =>
        cases z with
        | none => exact p.elim
        | some z =>
          simp only at p
          obtain ⟨Ai', x4, R4, an, sm⟩ := call_back (c := { c with q := false }) (fun z => nomatch z) hk hko (outs := some z :: outs) rfl rfl RF ok' xx R'
          unfold putO at R4
          rw [eset, putO_app (fun k i e => by rw [hn]; exact olt k i e)] at R4
          obtain ⟨u, u1, u2⟩ := R4.row σ.length z (by rw [← hn, ← putO_len (as := as) (outs := outs) (ρ := ρ1)]; simp)
          rw [show (σ ++ [some (V.ref x)])[σ.length]? = some (some (V.ref x)) by simp] at u1
          cases u1
          rw [shn] at u2
          refine ⟨Bor.non (.at o.fzAt.1) (H := H'), p (.ref x) Ai' H' (x1.trans (back xx x4)) ?_ u2⟩
          exact R4.pop (fun i hi => by rw [shl (Nat.ne_of_lt hi)]) pinl
    | _ => exact p.elim
  | ex e outs =>
    rw [show h (Dt.obj cn [] :: (ds ++ dds)) = .ex e outs from hr] at p
    intro cv dx' Ac H' xx R' hx
    obtain ⟨Ai', x4, R4, an, sm⟩ := call_back (c := { c with q := false }) (fun z => nomatch z) hk hkx (outs := outs) rfl rfl RF ok' xx R'
    have e5 : ∃ o, putO (.own σ.length :: as) outs (ρ1 ++ [some (Dt.obj cn [])]) = putO as outs.tail ρ1 ++ [o] := by
      cases outs with
      | nil =>
        show ∃ o, putO as [] ((ρ1 ++ [some (Dt.obj cn [])]).set σ.length none) = putO as [] ρ1 ++ [o]
        rw [eset, putO_app (fun k i e => by rw [hn]; exact olt k i e)]; exact ⟨_, rfl⟩
      | cons o outs =>
        show ∃ o', putO as outs ((ρ1 ++ [some (Dt.obj cn [])]).set σ.length o) = putO as outs ρ1 ++ [o']
        rw [eset, putO_app (fun k i e => by rw [hn]; exact olt k i e)]; exact ⟨_, rfl⟩
    obtain ⟨o, e5⟩ := e5
    rw [e5] at R4
    have R5 : Rep cl K c.F B Ai' sz (putO as outs.tail ρ1) σ H' := R4.pop (fun i hi => by rw [shz (Nat.ne_of_lt hi)]) pinl
    obtain ⟨Ai3, y3, R6, _⟩ := R5.less (q := c.q) l
    refine p cv dx' σ Ai3 H' ((x1.trans (back xx x4)).trans y3) ?_ (fun _ _ => rfl) ((hx.mono sm).mono y3.same)
    exact R6
end
/-! ### raise .. from None in an except suite -/
section
variable {X : Cx} {C : Addr} {bmB : List Value} {B newId initId : String}
/-- X('m'), its record has its six fields -/
theorem pmk5_own {x m : Str} {j : Nat} {p p2 pos : Pos} (F : ExcBaseFacts B newId initId bmB) (q : PySem.W.excIn X.K C bmB newId = true) (gC : X.mg x = some (.ref C)) (kC : PySem.W.keepIn X.K (.ref C) = true) (r : Raises X (.ref C)) (hg : Gl X x)
    (hdb : (x == ("__debug__" : Str)) = false := by decide) : L2H.PMk5 X (.Call (.Name x p) [.Constant (.str m) j p2] [] pos) (fun _ H Q => Q (.ref C) none H) := by
  intro pins s σ H Q I h
  refine wpAny_Call_Name_kw (ld_glob I hg gC ?_ hdb)
  have one : PA X [.Constant (.str m) j p2] (tCons (tC (.str m)) tNil) := pa_cons pe_str pa_nil
  refine PySem.W.callWith_K (h₀ := X.base) I.ok.mod.kin kC (thn (one.run pos pins s σ H (fun vs H1 => vs = [V.str m] ∧ H = H1) I ⟨rfl, rfl⟩) fun us s1 hh => ?_)
  obtain ⟨vs, H1, I1, r1, ev, eH⟩ := hh
  subst ev eH
  refine ⟨I1.kIn, ?_⟩
  cases r1 with
  | cons ru rn =>
    cases rn
    obtain ⟨bm, N, nm, qn, bs, hdct, sn, sub, ab, col, dd, k0, k1, k2, k3, k5, mN, hC, hN, hni, T⟩ := exc_obj I1.kIn q
    refine wpAny_call_exc_subT F T hC hN hni (fun h' e hm => ?_) (by show 1 ≤ sizeLine; rw [sizeLine_eq]; omega)
    exact L2H.mk_of5 I1 hm r h (I1.hok.gone hm.new)
end
section
variable {P : Program} {w : World} {K : PySem.W.Frag} {mg : Str → Option Value} {base : Heap} {cl : Str → Option Addr}
/-- a def whose errors have no context -/
theorem def_okN {x qual : Str} {st : Stmt} {f : Addr} {fd : FuncData} {N pn : List Str} {lv : Nat} {g : Sg} {body : SM} (F : Fun K x qual st f fd) (S : FnScope N pn (defScope st)) (har : pn.length = g.ar) (hn : N.length = g.n)
    (hbody : ∀ (cdv : Value) (A : Around) (outer : List PySem.Env) (s : Shared) (H : Hp) (E : XK), Room lv (A.deeper (envOfC qual (defScope st) s.heap.objs.size f cdv)) →
      ∃ t, PSs (cxOf (L2N.CX P w) P w K mg base N qual (defScope st) f cdv A outer s H E) (defBody st) t ∧ SS cl K (fxOf g E) g.ps g.po t body) :
    FnOk P w K mg base (L2N.CX P w) (lv + 1) f fd pn (spD cl K g (runF g body)) := by
  obtain ⟨oc, od, kV, doc, pm, an, cdv, ct, osl, rfl, lk, hcd⟩ := F.ex
  refine fn_of lk hcd S (fun vs H Q E h => ?_) (fun A outer s H vs Q E hr h => ?_)
  · obtain ⟨B, Ai, ds, R, hl, h⟩ := h
    rw [← hl, har]
    by_cases e : ds.length = g.ar
    · exact e
    · unfold runF at h; rw [if_neg e] at h; exact h.elim
  · obtain ⟨t, h1, h2⟩ := hbody cdv A outer s H E hr
    exact ⟨t, h1, body_ok hn h2 h⟩
end
/-- a suite that may raise -/
def sSuX (s : SM) : SM := s
section
variable {cl : Str → Option Addr} {K : PySem.W.Frag} {c : Fx} {ss ss' : Ss}
abbrev suFxX (cl : Str → Option Addr) (K : PySem.W.Frag) (c : Fx) (x : Ex) (cv : Value) (dx : Option Addr) : Fx :=
  { c with F := ⟨fun M => c.F.p M ∧ XAt cl K M x cv dx, fun M M' sm h => ⟨c.F.mono M M' sm h.1, h.2.mono sm⟩, c.F.pins ++ []⟩ }
theorem sh_suX {ts : Value → Option Addr → TS} {h : Ex → SM} (hs : ∀ x cv dx, SS cl K (suFxX cl K c x cv dx) ss ss' (ts cv dx) (h x)) : SH cl K c ss ss' ts (fun x => sSuX (h x)) := fun x cv dx B Ai ρ σ H D R hx p => by
  have R' : Rep cl K (suFxX cl K c x cv dx).F B Ai ss ρ σ H := ⟨R.len, R.row, R.dj, R.nb, R.al, R.hb, ⟨R.fx, hx⟩, fun q hq => R.pin q (by simpa using hq)⟩
  have back : ∀ {sz : Ss} {Ai' ρ' σ' H'}, Rep cl K (suFxX cl K c x cv dx).F B Ai' sz ρ' σ' H' → Rep cl K c.F B Ai' sz ρ' σ' H' := fun r => r.noF (fun M h => h.1) fun q hq => List.mem_append_left _ hq
  refine (hs x cv dx).use R' ?_
  change SPost cl K c B Ai ss' σ H D (h x ρ) at p
  cases hr : h x ρ with
  | nx ρ => rw [hr] at p; exact fun σ' Ai' H' x1 R1 k => p σ' Ai' H' x1 (back R1) k
  | rt d ρ => rw [hr] at p; exact fun v σ' Ai' H' x1 R1 k o => p v σ' Ai' H' x1 (back R1) k o
  | bk ρ => rw [hr] at p; exact fun σ' Ai' H' x1 R1 k => p σ' Ai' H' x1 (back R1) k
  | ct ρ => rw [hr] at p; exact fun σ' Ai' H' x1 R1 k => p σ' Ai' H' x1 (back R1) k
  | ex y ρ => rw [hr] at p; exact fun cv dx σ' Ai' H' x1 R1 k hx => p cv dx σ' Ai' H' x1 (back R1) k hx
  | stuck => rw [hr] at p; exact p
end
/-- around a body nothing is let out -/
theorem takes0N {X : Cx} : L2N.Takes X (fun _ _ _ _ => False) := fun _ _ x => by
  obtain ⟨_, _, _, _, _, _, _, _, _, _, _, _, _, _, _, _, z⟩ := x
  exact z.elim
/-! ### errors with their own __init__: super().__init__('text'); self.f = x -/
section
variable {P : Program} {w : World} {K : PySem.W.Frag} {mg : Str → Option Value} {base : Heap}
/-- ValueError.__init__, bound by super() to the error that is being made -/
theorem call_sup {X : Cx} {pins : List (Addr × Obj)} {σ : L2.St} {H : Hp} {s : Shared} {A : Around} {E : Value → Shared → Prop} {a C u : Addr} {us : List Value} {Q : Value → Shared → Prop} (T : OexC X.K C) (I : Inv X pins σ H s) (e : H a = some (exo a C none))
    (hu : s.heap.get? u = some (PySem.W.kxs_mw "ValueError.__init__" a)) (hl : us.length ≤ sizeLine) (h : ∀ s', Inv X pins σ H s' → Q .none s') :
    wpAny (model X.prog X.w) A (call (.ref u) us) Q E s := by
  obtain ⟨nm, q, N, bs, bm, sn, sub, ab, col, dd, k0, k1, k2, k3, k5, hC, hbm⟩ := T.cls
  obtain ⟨t1, ho⟩ := exo_at I.hok e
  have hC2 := I.kIn _ _ hC
  obtain ⟨hp, g, d, t, os⟩ := s
  refine wpAny_call (codeAny_of_tree ?_)
  show wpAny _ A.in1 (callAny (.ref u) ⟨us, []⟩) _ _ _
  simp only [callAny]
  refine wpAny_bind (wpAny_load hu ?_)
  simp only [PySem.W.kxs_mw, show (Value.type "method-wrapper" == Value.type "method" || Value.type "method-wrapper" == Value.type "builtin_function_or_method" || Value.type "method-wrapper" == Value.type "method-wrapper") = true by decide, if_true]
  refine PySem.W.KFB.if_so (by decide) ?_
  refine wpAny_bind (PySem.W.check_bound_init F.excBase_ValueError.toExcCallFacts hC2 ho rfl ?_)
  refine wpAny_bind (wpAny_pure (wpAny_pure ?_))
  refine ⟨plainId_quiet F.excBase_ValueError.init.plain _, codeAny_builtin F.excBase_ValueError.initEntry ?_⟩
  refine PySem.W.exc_init_tree (cls := .ref C) (t0 := t1) (dv := none) (c2 := .none) (c3 := .none) (b4 := .bool false) ho hl (fun h' k hx _ => ?_)
  have J := I.write (t' := t) (x := a) (e := a) (o := exo a C none) (by rw [e]; exact True.intro) (.inl rfl) k ⟨_, hx⟩ (exo_ok hx)
  have eu : upd H a (exo a C none) = H := by
    funext b
    by_cases hb : b = a
    · rw [hb, upd_same, e]
    · rw [upd_ne hb]
  rw [eu] at J
  exact h _ J
/-- what the __init__ promises -/
def spSup (C : Addr) (fld : Str) : Sp := fun vs H Q _ => ∃ a y, vs = [.ref a, y] ∧ H a = some (exo a C none) ∧ ∀ dx, H dx = none → dx ≠ a → Q .non (upd (upd H dx (exd dx [(fld, y)])) a (exo a C (some dx)))
/-- super().__init__('text'); self.fld = arg -/
def bodyS (txt fld arg : Str) (j : Nat) (p0 p1 p2 p3 p4 p5 q0 q1 q2 q3 : Pos) : List Stmt :=
  [.Expr (.Call (.Attribute (.Call (.Name "super" p0) [] [] p1) "__init__" p2) [.Constant (.str txt) j p3] [] p4) p5, .Assign [.Attribute (.Name "self" q0) fld q1] (.Name arg q2) q3]
/-- the scope of such an __init__ -/
structure SupScope (scope : Scope) (arg : Str) : Prop where
  kind : scope.kind = .function
  co : scope.isCoroutine = false
  gen : scope.isGenerator = false
  sup : scope.names.lookup ("super" : Str) = some .globalImplicit
  cls : scope.names.lookup ("__class__" : Str) = some .free
  slf : scope.names.lookup ("self" : Str) = some .local
  arg : scope.names.lookup arg = some .local
  cel : ∀ x ∈ scope.names, x.2 ≠ .cell
  fre : ∀ x ∈ scope.names, x.2 = .free → x.1 = "__class__"
theorem sup_fn {CX : CXT} {k : Nat} {f C cc cda : Addr} {qual fld txt arg : Str} {params : Arguments} {body : List Stmt} {scope : Scope} {dV kV doc pm ct oc ccl cl0 : Value} {an od cdd cld : Option Addr} {osl ccs csl : Array (Option Value)} {vs0 : Array Value} {file : Str} {tf : Tok}
    {j : Nat} {p0 p1 p2 p3 p4 p5 q0 q1 q2 q3 : Pos} {ar : Arg}
    (lk : K.lookup f = some ⟨oc, od, .func (PySem.W.ksFn "__init__" qual params body scope dV kV doc pm an (.ref cda) ct cc), osl⟩) (hcd : PySem.W.codeIn K (.ref cda) qual = true)
    (hcode : K.lookup cda = some ⟨ccl, cdd, .fields vs0, ccs⟩) (hvs : vs0[2]? = some (.str file tf)) (hfile : ((P.main.file : Str) == file) = true) (htop : (P.main.scope.names.lookup ("super" : Str)).isSome = false)
    (hcell : K.lookup cc = some ⟨cl0, cld, .cell (some (.ref C)), csl⟩) (T : OexC K C) (hsub : PySem.W.mroIn K C (.ref C) = some true) (hm : PySem.W.ks_superIn K C C "__init__" = some (some (.builtin "ValueError.__init__")))
    (hop : PySem.W.nsIn K cStatics "thirdparty.any" = some none) (hB : PySem.W.subIn K (.ref C) (.type "ValueError") = some true) (hno : PySem.W.findIn K (.ref C) fld = some none) (gs : mg "super" = none)
    (hbody : body = bodyS txt fld arg j p0 p1 p2 p3 p4 p5 q0 q1 q2 q3) (S : SupScope scope arg) (hpar : (params.posonlyargs ++ params.args).head? = some ar) (har : ar.arg = "self") (hne : arg ≠ "self") (hd1 : (arg == ("__debug__" : Str)) = false) (hd2 : (arg == ("__classdict__" : Str)) = false)
    (hsw : ∀ L, swapsWith (.Name arg q2) (some (.Attribute (.Name "self" q0) fld q1)) q3.line (PySem.W.ksEnv qual scope L f (.ref cda) cc) = pure false) {pl : Addr → Sem Bool} (hev : ∀ L, eval (.Call (.Attribute (.Call (.Name "super" p0) [] [] p1) "__init__" p2) [.Constant (.str txt) j p3] [] p4) (PySem.W.ksEnv qual scope L f (.ref cda) cc) = (do
      let ov ← attributeBase (.Call (.Name "super" p0) [] [] p1) "__init__" (PySem.W.ksEnv qual scope L f (.ref cda) cc) (eval (.Call (.Name "super" p0) [] [] p1) (PySem.W.ksEnv qual scope L f (.ref cda) cc))
      standAt p2.atName
      let (g, first) ← holding [ov] (getMethod ov "__init__" (pl L))
      callWith p4 g first (backTo p4 (starEach [.Constant (.str txt) j p3] (PySem.W.ksEnv qual scope L f (.ref cda) cc))) [])) :
    FnOk P w K mg base CX (k + 1) f (PySem.W.ksFn "__init__" qual params body scope dV kV doc pm an (.ref cda) ct cc) ["self", arg] (spSup C fld) := by
  refine ⟨fun vs H Q E h => by obtain ⟨a, y, rfl, _⟩ := h; rfl, fun A outer s H args us vs Q E hr e0 hb r hsp => ?_⟩
  obtain ⟨a, y, rfl, ha, hq⟩ := hsp
  obtain ⟨u1, uy, rfl, r0, ry⟩ : ∃ u1 uy, us = [u1, uy] ∧ RelV (.ref a) u1 ∧ RelV y uy := by
    cases r with
    | cons r0 r1 => cases r1 with
      | cons ry rn => cases rn; exact ⟨_, _, rfl, r0, ry⟩
  obtain rfl : u1 = Value.ref a := r0
  have KX : K.In s.heap := e0.mod.kin.keeps fun b o e => (e0.bs b o e).1
  have lim : s.heap.NoLimit := e0.mod.nolimit.keeps fun b o e => (e0.bs b o e).1
  refine ks_codeAny_call_defAt (fd := PySem.W.ksFn "__init__" qual params body scope dV kV doc pm an (.ref cda) ct cc) (binds := [("self", .ref a), (arg, uy)]) hr.depth (KX _ _ lk) rfl lim (PySem.W.codeRec_of KX hcd) rfl hb S.cel (fun x hx => ?_) (fun h₁ hns hk => ?_) S.co S.gen S.kind
  · simp only [List.mem_cons, List.not_mem_nil, or_false] at hx
    rcases hx with rfl | rfl
    · exact S.slf
    · exact S.arg
  let env := PySem.W.ksEnv qual scope s.heap.objs.size f (.ref cda) cc
  let xe : Value → Shared → Prop := fun e s' => wpAny (model P w) (A.deeper env) (leaving env e) (fun _ s2 => CX outer H s E e s2) (fun e2 s2 => CX outer H s E e2 s2) s'
  let X : Cx := ⟨P, w, K, mg, base, A.deeper env, ["self", arg], s, H, env, outer, env :: outer, [], fun _ => false, true, [], xe⟩
  have bcell : s.heap.get? cc = some ⟨cl0, cld, .cell (some (.ref C)), csl⟩ := KX _ _ hcell
  have bin : ∀ b o, K.lookup b = some o → base.get? b = some o := fun b o e => e0.mod.kin b o e
  have cl1 : ∀ x c, X.env.cells.lookup x = some c → x = "__class__" ∧ c = cc := fun x c h => by
    have h : List.lookup x [(("__class__" : Str), cc)] = some c := h
    simp only [List.lookup] at h
    split at h
    · rename_i hx
      exact ⟨by simpa using hx, (Option.some.inj h).symm⟩
    · cases h
  have ok : X.Ok := {
    mod := e0.mod
    kind := S.kind
    glob := rfl
    blt := rfl
    above := Nat.le_refl _
    inj := fun x y c h1 h2 => (cl1 x c h1).1.trans (cl1 y c h2).1.symm
    has := fun x hx => by
      rcases hx with hx | hx
      · exact absurd rfl (S.cel _ (PySem.mem_of_lookup hx))
      · obtain rfl : x = "__class__" := S.fre _ (PySem.mem_of_lookup hx) rfl
        exact ⟨cc, rfl⟩
    cab := fun x c h => by cases h
    hd := fun _ => hr.hd
    frames := Around.frames_deeper e0.frames
    stk := .inr ⟨rfl, rfl⟩
    exf := fun b hb => by cases hb
    bs := e0.bs
    bsz := e0.bsz
    noex := fun b _ _ hb => by cases hb
    exfs := fun b hb => by cases hb
    funs := e0.funs
    frf := e0.frf }
  have I : Inv X [] [some (.ref a), some y] H { s with heap := h₁, toks := s.toks + [(("self" : Str), Value.ref a), (arg, uy)].length } := {
    ok := ok
    os := rfl
    bare := e0.bare
    base := Un.kept hk
    loc := by
      refine ⟨_, hns, fun i x v h1 h2 h3 => ?_⟩
      match i with
      | 0 =>
        obtain rfl : "self" = x := Option.some.inj h1
        obtain rfl : V.ref a = v := Option.some.inj (Option.some.inj h2)
        refine ⟨.ref a, rfl, .inl ⟨S.slf, ?_⟩⟩
        show List.lookup ("self" : Str) [(arg, uy), ("self", Value.ref a)] = _
        simp [List.lookup, show (("self" : Str) == arg) = false by simpa using Ne.symm hne]
      | 1 =>
        obtain rfl : arg = x := Option.some.inj h1
        obtain rfl : y = v := Option.some.inj (Option.some.inj h2)
        refine ⟨uy, ry, .inl ⟨S.arg, ?_⟩⟩
        show List.lookup arg [(arg, uy), ("self", Value.ref a)] = _
        simp [List.lookup]
      | i + 2 => cases h1
    cell := fun x c h => by
      obtain ⟨_, rfl⟩ := cl1 x c h
      exact ⟨_, _, hk _ _ bcell, rfl⟩
    free := e0.hok.fresh (Nat.le_refl _)
    freeC := fun x c h => by
      obtain ⟨_, rfl⟩ := cl1 x c h
      exact (e0.bs _ _ (bin _ _ hcell)).2
    pin := fun p hp => by cases hp
    hok := e0.hok.kept hk
    len := rfl }
  subst hbody
  obtain ⟨t1, ho⟩ := exo_at I.hok ha
  have ho : h₁.get? a = some ({ cls := .ref C, dict := none, data := .fields #[.ref t1, .none, .none, .none, .bool false, .none] } : Obj) := ho
  obtain ⟨nm, q, N, bs, bm, sn, sub, ab, col, dd, k0, k1, k2, k3, k5, hC, hbm⟩ := id T.cls
  have hC1 := hk _ _ (KX _ _ hC)
  have KX1 : K.In h₁ := KX.keeps hk
  obtain ⟨mb, hb1, hb2⟩ := e0.mod.blt
  have bk : ∀ b o, base.get? b = some o → h₁.get? b = some o := I.bk
  show PySem.wpAt (model P w) (A.deeper env) (.func _ env) (execs (bodyS txt fld arg j p0 p1 p2 p3 p4 p5 q0 q1 q2 q3) env) _ xe _
  unfold bodyS
  refine ks_wpAt_execs_cons (ks_wpAt_Expr_any (ks_wpAt_MethodCall ?_ (hev _)) I.quiet)
  refine ks_wpAt_super_base (f := f) (cc := cda) (ar := ar) S.sup S.cls (by decide) rfl (hk _ _ (KX _ _ lk)) rfl hpar rfl (hk _ _ (KX _ _ hcode)) rfl hvs hfile htop ?_
  refine PySem.W.ks_loadName_global S.kind S.sup (Calls.loadGlobal_builtin (env := env) (e0.mod.glob.keeps bk) gs (hb1.keeps bk) ((hb2 "super" (by decide)).trans (show bootBuiltins "super" = some (.type "super") from rfl)) ⟨rfl, ?_⟩)
  refine wpAny_loadName_free S.kind S.cls rfl ⟨_, hk _ _ bcell, rfl⟩ ?_
  rw [har]
  refine wpAny_loadName_local S.kind S.slf hns (v := .ref a) ?_ ?_
  · show List.lookup ("self" : Str) [(arg, uy), ("self", Value.ref a)] = _
    simp [List.lookup, show (("self" : Str) == arg) = false by simpa using Ne.symm hne]
  refine ks_wpAny_isType_cls hC1 rfl ⟨rfl, ?_⟩
  refine ks_wpAny_call_super hC1 rfl ho rfl (fun c e => by cases e) (PySem.W.looks_mroIn KX1 hsub) (fun h2 e2 kk2 => ?_)
  have I2 := I.kept (t' := s.toks + [(("self" : Str), Value.ref a), (arg, uy)].length) kk2
  have KX2 : K.In h2 := KX1.keeps kk2
  have ho2 := kk2 _ _ ho
  have II : PySem.W.InstAt h2 a { cls := .ref C, dict := none, data := .fields #[.ref t1, .none, .none, .none, .bool false, .none] } C none := ⟨ho2, rfl, rfl, trivial⟩
  have hI : PySem.W.Looks (model P w) h2 (isInstance (.ref a) (.type "ValueError")) true := II.type.andThen (PySem.W.looks_subIn KX2 hB)
  cases hc : PySem.W.clsIn K C with
  | none => unfold PySem.W.ks_superIn at hm; rw [hc] at hm; cases hm
  | some cd =>
    unfold PySem.W.ks_superIn at hm
    rw [hc] at hm
    refine PySem.W.kxs_getMethod PySem.W.kxs_ValueError e2 (PySem.W.looks_opaque KX2 hop) (l₀ := cd.mro) ?_ rfl KX2 hm hI (PySem.W.ks_ne KX2 II hc) (by decide) ?_
    · exact fun A Q E s k q => wpAny_bind ((PySem.W.looks_clsIn KX2 hc) A _ E s k (wpAny_pure q))
    have hu : (h2.push (PySem.W.kxs_mw "ValueError.__init__" a)).get? h2.objs.size = some (PySem.W.kxs_mw "ValueError.__init__" a) := Heap.get?_push_at rfl rfl
    have I3 := I2.kept (t' := s.toks + [(("self" : Str), Value.ref a), (arg, uy)].length + 1) (h' := h2.push (PySem.W.kxs_mw "ValueError.__init__" a)) fun b o e => Heap.get?_push_of_some _ e
    have I4 := I3.pins_of (pins' := [(h2.objs.size, PySem.W.kxs_mw "ValueError.__init__" a)]) (fun p hp => by
      obtain rfl := List.mem_singleton.mp hp
      exact ⟨hu, I2.hok.fresh (Nat.le_refl _), Ne.symm (Nat.ne_of_lt I2.lt), I2.nofs (Nat.le_refl _), fun v z => by cases z⟩)
    show wpAny (model P w) (A.deeper env) (callWith p4 (.ref h2.objs.size) [] (backTo p4 (starEach [.Constant (.str txt) j p3] env)) []) _ xe _
    rw [show starEach [.Constant (.str txt) j p3] env = (false, eval (.Constant (.str txt) j p3) env) :: starEach [] env from rfl]
    refine PySem.W.kxs_callWith (i := "ValueError.__init__") (x := a) rfl (Calls.evalArgs_plain ?_)
    have one : PA X [.Constant (.str txt) j p3] (tCons (tC (.str txt)) tNil) := pa_cons pe_str pa_nil
    refine thn (one.run p4 _ _ _ H (fun vs H1 => vs = [V.str txt] ∧ H = H1) I4 ⟨rfl, rfl⟩) fun us1 s1 hh => ?_
    obtain ⟨vs1, H1, I5, rv, rfl, rfl⟩ := hh
    have hu5 := (I5.pin (h2.objs.size, PySem.W.kxs_mw "ValueError.__init__" a) (List.mem_append_right _ (List.mem_singleton.mpr rfl))).1
    refine ⟨hu5, ?_⟩
    refine call_sup T (X := X) I5 ha hu5 (by show us1.length ≤ sizeLine; rw [← rv.length, sizeLine_eq]; show 1 ≤ 16777216; decide) (fun s' J => ?_)
    refine wpAt_of_wpAny ?_
    have J := J.pins_of (pins' := []) (fun p hp => by cases hp)
    have st : PSs X [.Assign [.Attribute (.Name "self" q0) fld q1] (.Name arg q2) q3] (tOst K fld (tVar 0) (tVar 1)) := pss_one (ps_ost (pe_var rfl (.inl S.slf)) (pe_var rfl (.inl S.arg) hd1 hd2) (hsw _))
    refine wpAny_mono (st.run [] s' _ H { nx := fun _ H' => Q .non H', rt := Q } J ⟨y, rfl, .ref a, rfl, a, C, rfl, T, hno, .inl ⟨ha, hq⟩⟩) (fun fl s2 hs => ?_) fun e s2 hs => hs
    have fin : ∀ {σ' : L2.St} {H' : Hp} {v : V} {u : Value}, Inv X [] σ' H' s2 → RelV v u → Q v H' → CE outer P w H s Q u s2 :=
      fun {σ' H' v u} J rv q => ⟨v, H', J.os, J.bare, J.base, J.hok, rv, q⟩
    cases fl with
    | ret u =>
      obtain ⟨v, σ', H', J, rv, q⟩ := hs
      exact fin J rv q
    | next =>
      obtain ⟨σ', H', J, q⟩ := hs
      exact fin (v := V.non) (u := Value.none) J rfl q
    | brk =>
      obtain ⟨_, _, _, q⟩ := hs
      exact False.elim q
    | cont =>
      obtain ⟨_, _, _, q⟩ := hs
      exact False.elim q
end
/-- raise C(e): the error has the one field f -/
def sRaiseA (c f : Str) (e : EM Dt) : SM := fun ρ => (e ρ).go fun d ρ1 => .ex ⟨c, [(f, d)]⟩ ρ1
/-- err.f, err of the class cn -/
def eXf (cn : Str) (x : Ex) (f : Str) : EM Dt := fun ρ => if x.c = cn then (match x.fs.lookup f with | some d => .ok d ρ | none => .stuck) else .stuck
section
variable {cl : Str → Option Addr} {K : PySem.W.Frag} {c : Fx} {ss ss' : Ss} {te : TE} {e : EM Dt}
theorem ss_raiseA {x f : Str} {C : Addr} (hc : cl x = some C) (he : SE cl K c ss .fz te e) (l : leS c.sx ss = true := by rfl) :
    SS cl K c ss ss' (fun _ σ H => tMkO C (spSup C f) [] (tCons te tNil) σ H fun cls d H' => c.W cls d σ H') (sRaiseA x f e) := fun B Ai ρ σ H D R p => by
  unfold sRaiseA at p
  refine he.use R (fun d ρ1 e1 v Ai1 H1 x1 R1 o1 => ?_) (fun y ρ1 e1 => ?_) fun e1 => ?_
  · rw [e1] at p
    refine ⟨by show 1 ≤ 1000; decide, fun a na => ⟨a, v, rfl, upd_same, fun dx nd ne => ⟨rfl, dx, [(f, v)], upd_same, ?_, ?_, ?_⟩⟩⟩
    · rw [upd_ne ne, upd_same]
    · rw [upd_ne ne] at nd; exact nd
    · have nd' : H1 dx = none := by rw [upd_ne ne] at nd; exact nd
      have eH : upd (del (upd (upd (upd H1 a (exo a C none)) dx (exd dx [(f, v)])) a (exo a C (some dx))) a) dx (.xd [(f, v)]) = upd H1 dx (.xd [(f, v)]) := by
        funext b
        by_cases hb : b = dx
        · rw [hb, upd_same, upd_same]
        · rw [upd_ne hb, upd_ne hb]
          by_cases ha : b = a
          · rw [ha, del_same, na]
          · rw [del_ne ha, upd_ne ha, upd_ne hb, upd_ne ha]
      rw [eH]
      obtain ⟨R2, x2⟩ := R1.new (q := c.q) (o := .xd [(f, v)]) nd'
      obtain ⟨Ai3, x3, R3, _⟩ := R2.less (q := c.q) l
      refine p (.ref C) (some dx) σ Ai3 _ (x1.trans (x2.trans x3)) R3 (fun _ _ => rfl) ⟨C, hc, rfl, .inr ⟨dx, [(f, v)], rfl, by simp, ?_, ?_, ?_⟩⟩
      · refine x3.same _ _ (mask_some.mpr ⟨fun z => R1.no nd' z, upd_same⟩)
      · intro k; simp only [List.lookup]; cases k == f <;> rfl
      · intro k v' d' h1 h2
        simp only [List.lookup] at h1 h2
        cases hk : k == f with
        | true => rw [hk] at h1 h2; cases h1; cases h2; exact o1.fzAt.1.mono (x2.trans x3).same
        | false => rw [hk] at h1; cases h1
  · rw [e1] at p; exact p
  · rw [e1] at p; exact p
theorem se_xf {i : Nat} {a C : Addr} {x : Ex} {cv : Value} {dx : Option Addr} {cn f : Str} (hF : ∀ M, c.F.p M → XAt cl K M x cv dx) (hp : (i, V.ref a) ∈ c.F.pins) (hc : cl cn = some C) : SE cl K c ss .fz (tXf a cv dx C f (tVar i)) (eXf cn x f) := fun B Ai ρ σ H Q R p => by
  unfold eXf at p
  split at p
  · rename_i h
    obtain ⟨D, h1, h2, h3⟩ := hF _ R.fx
    obtain rfl : D = C := by rw [h, hc] at h1; exact (Option.some.inj h1).symm
    cases hl : x.fs.lookup f with
    | none => rw [hl] at p; exact p.elim
    | some d =>
      rw [hl] at p
      rcases h3 with ⟨h3, _⟩ | ⟨a', xs, h4, h5, h6, h7, h8⟩
      · rw [h3] at hl; cases hl
      · obtain ⟨v, hv⟩ := lookup_two h7 hl
        obtain ⟨Ai2, x2, R2, o2⟩ := R.res (q := c.q) (.old (h8 f v d hv hl))
        exact ⟨.ref a, R.pin _ hp, rfl, h2, a', xs, v, h4, (mask_some.mp h6).2, hv, p v Ai2 H x2 R2 o2⟩
  · exact p.elim
end
/-! ### defs called in an except suite -/
section
variable {X : Cx} {W : WX}
theorem traced_imp {h base : Heap} {e : Addr} {Z Z' : Obj → Prop} {fl : Value} (hz : ∀ o, Z o → Z' o) (x : HandSPX.TracedZ h base e Z fl) : HandSPX.TracedZ h base e Z' fl := by
  obtain ⟨oe, vs, T, oT, ts, h1, h2, h3⟩ := x
  exact ⟨oe, vs, T, oT, ts, h1, hz _ h2, h3⟩
theorem sky_imp {B h : Heap} {l : List PySem.Env} {a L : Addr} {Z Z' : Obj → Prop} (hz : ∀ o, Z o → Z' o) (x : Sky B l a Z L h) : Sky B l a Z' L h := by
  rcases x with ⟨h1, h2, h3, oe, vs, h4, h5, h6⟩ | ⟨h1, h2, h3, h4⟩ | ⟨h1, h2, h3, h4⟩
  · exact .inl ⟨h1, h2, h3, oe, vs, h4, hz _ h5, h6⟩
  · exact .inr (.inl ⟨h1, h2, h3, traced_imp hz h4⟩)
  · exact .inr (.inr ⟨h1, h2, h3, traced_imp hz h4⟩)
theorem takesN_of (tk : L2.Takes X W) : L2N.Takes X W := fun u s' h => by
  obtain ⟨a, B, sI, pins, σ, H, cls, d, h1, h2, h3, h4, h5, h6, h7, h8, h9⟩ := h
  exact tk u s' ⟨a, B, sI, pins, σ, H, cls, d, h1, h2, h3, h4, sky_imp (fun _ z => z.zc) h5, h6, h7, h8, h9⟩
theorem hotC_su {a : Addr} {oe : Obj} {cls : Value} {d : Option Addr} {pn : List (Addr × Obj)} (hz : L2N.Zn cls d oe) (hf : ∃ vs, oe.data = .fields vs) : L2H.HotC (X.suite a ((a, oe) :: pn)) := by
  obtain ⟨vs, hd⟩ := hf
  exact ⟨(a, oe), ⟨rfl, vs, hd, hz.2.2 vs hd⟩, List.mem_cons_self⟩
theorem roomH_su {k : Nat} {a : Addr} {pn : List (Addr × Obj)} (hr : Room k X.A) : L2H.RoomH k (X.suite a pn).A := ⟨hr.dp, hr.un⟩
theorem unitsH {k : Nat} {A : Around} (r : L2H.RoomH k A) : A.units + 64 < cLine := by have := r.un; omega
theorem pe_callHD {CX : CXT} {k : Nat} {f : Addr} {fd : FuncData} {ps : List Str} {sp : Sp} {E : L2.St → XK} {x : Str} {q pos : Pos} {e : Expr} {es : List Expr} {t : TA} (F : L2H.FnH X.prog X.w X.K X.mg X.base CX k f fd ps sp) (hr : L2H.RoomH k X.A) (hc : L2H.HotC X) (hg : Gl X x) (hm : X.mg x = some (.ref f)) (hk : PySem.W.keepIn X.K (.ref f) = true) (hb : Binds X.K fd ps [])
    (hx : ∀ σ, PassesAt CX X σ (E σ)) (ha : PA X (e :: es) t) (hdb : (x == ("__debug__" : Str)) = false := by decide) (he : starEach (e :: es) X.env = (false, eval e X.env) :: starEach es X.env := by rfl) (hpl : (backTo pos (starEach es X.env)).any (·.1) = false := by rfl) :
    PE X (.Call (.Name x q) (e :: es) [] pos) (tCallSD sp [] E t) := by
  have h := L2H.pe_callH (q := q) (pos := pos) F hr hc hg hm hk hb hx ha hdb he hpl
  have e : tCallSD sp [] E t = tCallS sp E t := by
    funext σ H Q
    simp only [tCallSD, tCallS, List.append_nil]
  rw [e]
  exact h
theorem pass0 {σ : L2.St} {E : XK} : PassesAt CX0 X σ E := fun _ _ _ _ _ _ h => h.elim
end
section
variable {P : Program} {w : World} {K : PySem.W.Frag} {mg : Str → Option Value} {base : Heap} {cl : Str → Option Addr}
theorem hotC_cx {CX : CXT} {N : List Str} {qual : Str} {scope : Scope} {f : Addr} {cd : Value} {A : Around} {outer : List PySem.Env} {s : Shared} {H : Hp} {E : XK} {p : Addr × Obj} (h : L2H.Hot1 A p) : L2H.HotC (L2H.cxH CX P w K mg base N qual scope f cd A outer s H E p) := ⟨p, h, List.mem_singleton.mpr rfl⟩
/-- a def that lets no error out, called in a suite -/
theorem def_okH {x qual : Str} {st : Stmt} {f : Addr} {fd : FuncData} {N pn : List Str} {lv : Nat} {g : Sg} {body : SM} (F : Fun K x qual st f fd) (S : FnScope N pn (defScope st)) (har : pn.length = g.ar) (hn : N.length = g.n)
    (hbody : ∀ (cdv : Value) (A : Around) (outer : List PySem.Env) (s : Shared) (H : Hp) (E : XK) (p : Addr × Obj), L2H.RoomH lv (A.deeper (envOfC qual (defScope st) s.heap.objs.size f cdv)) → L2H.HotC (L2H.cxH CX0 P w K mg base N qual (defScope st) f cdv A outer s H E p) →
      ∃ t, PSs (L2H.cxH CX0 P w K mg base N qual (defScope st) f cdv A outer s H E p) (defBody st) t ∧ SS cl K (fxOf g E) g.ps g.po t body) :
    L2H.FnH P w K mg base CX0 (lv + 1) f fd pn (spD cl K g (runF g body)) := by
  obtain ⟨oc, od, kV, doc, pm, an, cdv, ct, osl, rfl, lk, hcd⟩ := F.ex
  refine L2H.fn_ofH lk hcd S (fun vs H Q E h => ?_) (fun A outer s H vs Q E p hot hr h => ?_)
  · obtain ⟨B, Ai, ds, R, hl, h⟩ := h
    rw [← hl, har]
    by_cases e : ds.length = g.ar
    · exact e
    · unfold runF at h; rw [if_neg e] at h; exact h.elim
  · obtain ⟨t, h1, h2⟩ := hbody cdv A outer s H E p hr (hotC_cx hot)
    exact ⟨t, h1, body_ok hn h2 h⟩
end
section
variable {X : Cx} {C : Addr}
/-- what the making of an error with a field leaves, without a context -/
theorem mk_endN {pins : List (Addr × Obj)} {σ : L2.St} {H1 H2 : Hp} {Q : XK} {hp hp2 h2 : Heap} {g1 g2 : Array GenState} {d1 d2 : Drawn} {t1 t2 : Nat} {os1 os2 : OsState} {a d : Addr} {fs : List (Str × V)} (T : Raises X (.ref C)) (I1 : Inv X pins σ H1 ⟨hp, g1, d1, t1, os1⟩)
    (ha : hp.objs.size ≤ a) (k : ∀ b o, hp.get? b = some o → hp2.get? b = some o) (un : Un (frs X.stack) [] (upd H1 a (exo a C none)) H2 hp2 h2) (hok : HOk X.prog X.w H2 h2) (ho : os2 = os1) (hb : AllBare g2)
    (ea : H2 a = some (exo a C (some d))) (ed : H2 d = some (exd d fs)) (hd1 : H1 d = none) (q : Q (.ref C) (some d) (upd (del H2 a) d (.xd fs))) : L2N.MkP X pins σ Q (.ref a) ⟨h2, g2, d2, t2, os2⟩ := by
  obtain ⟨t0, G, J, kG, ge, hoe, na⟩ := mk_end0 (d2 := d2) (t2 := t2) I1 ha k un hok ho hb ea ed hd1
  refine ⟨a, _, _, ⟨G, g2, d2, t2, os2⟩, _, .ref C, some d, rfl, J, kG, ge, hoe, ⟨rfl, rfl, fun vs hv => ?_⟩, rfl, rfl, na, rfl, hb, T, q⟩
  cases hv
  rfl
end
section
variable {X : Cx} {e : Expr} {te : TE} {p pos : Pos}
/-- C(e), C's own __init__ keeping sp; the error has no context -/
theorem pmk_oexN {x : Str} {C fI : Addr} {k : Nat} {fd : FuncData} {ps : List Str} {sp : Sp} {ta : TA} (T : OexC X.K C) (iC : PySem.W.findIn X.K (.ref C) "__init__" = some (some (.ref fI))) (tI : PySem.W.typeIn X.K (.ref fI) = some (.type "function"))
    (F1 : FnOk X.prog X.w X.K X.mg X.base CX0 k fI fd ps sp) (hr : Room (k + 1) X.A) (hb : Binds X.K fd ps []) (hg : Gl X x) (hm : X.mg x = some (.ref C)) (ha : PA X [e] ta)
    (hdb : (x == ("__debug__" : Str)) = false := by decide) (he : starEach [e] X.env = (false, eval e X.env) :: starEach [] X.env := by rfl) (hpl : (backTo pos (starEach [] X.env)).any (·.1) = false := by rfl) :
    L2N.PMk X (.Call (.Name x p) [e] [] pos) (tMkO C sp [] ta) := by
  intro pins s σ H Q I h
  obtain ⟨nm, q, N, bs, bm, sn, sub, ab, col, dd, k0, k1, k2, k3, k5, hC, hbm⟩ := T.cls
  have args := fun Q h => ha.run pos pins s σ H Q I h
  refine wpAny_Call_Name_kw (ld_glob I hg hm ?_ hdb)
  refine PySem.W.callWith_K (h₀ := X.base) I.ok.mod.kin T.kC (thn (args _ h) fun us s1 z => ?_) he hpl
  obtain ⟨vs, H1, I1, r1, hz, q1⟩ := z
  refine ⟨I1.kIn, ?_⟩
  obtain ⟨hp, g, dr, tk, os⟩ := s1
  obtain ⟨n, hn⟩ : ∃ n, n = hp.objs.size := ⟨_, rfl⟩
  have free : H1 (n + 1) = none := I1.hok.fresh (by rw [hn]; exact Nat.le_succ _)
  have want := q1 (n + 1) free
  have up : ∀ b o, hp.get? b = some o → ((hp.push (PySem.W.kdv_tup us)).push (PySem.HandSPX.excO C n)).get? b = some o := fun b o e => Heap.get?_push_of_some _ (Heap.get?_push_of_some _ e)
  have there : ((hp.push (PySem.W.kdv_tup us)).push (PySem.HandSPX.excO C n)).get? (n + 1) = some (PySem.HandSPX.excO C n) := by rw [hn]; heap_get
  have I2 : Inv X pins σ (upd H1 (n + 1) (exo (n + 1) C none)) ⟨(hp.push (PySem.W.kdv_tup us)).push (PySem.HandSPX.excO C n), g, dr, tk, os⟩ := I1.laid (t' := tk) up (by rw [hn]; exact Nat.le_succ _) (exo_ok there)
  have both : Vals (V.ref (n + 1) :: vs) (Value.ref (n + 1) :: us) := .cons rfl r1
  rw [List.append_nil] at want
  have len : (Value.ref (n + 1) :: us).length = ps.length := both.length.symm.trans (F1.len _ _ _ _ want)
  have bd := hb _ (Value.ref (n + 1) :: us) I2.kIn (by rw [List.append_nil]; exact len)
  rw [List.append_nil] at bd
  have small : us.length ≤ sizeLine := by rw [← Paired.length r1, sizeLine_eq]; omega
  have body := F1.run _ X.stack _ _ ⟨Value.ref (n + 1) :: us, []⟩ (Value.ref (n + 1) :: us) _ _ _ (hr.make C us []) (I2.env0.make C us []) bd both want
  rw [hn] at body
  show wpAny _ _ (call (.ref C) us) _ _ _
  refine wpAny_call (PySem.HandSPX.call_own F.excBase_ValueError (fun Y => PySem.HandSPX.refsVE_contains Y bm hbm) (I1.kIn _ _ hC) (PySem.W.looks_findIn I1.kIn iC) (fun self => PySem.W.bind_fn I1.kIn self tI) small (codeAny_mono body fun r s' z => ?_))
  cases r with
  | error er => exact False.elim z
  | ok fl =>
    cases fl with
    | ret u =>
      obtain ⟨v, H2, os2, bare2, un2, hok2, rv, ev, d, fs, ea, ed, hd1, q2⟩ := z
      subst ev
      obtain ⟨h2, g2, d2, t2, os'⟩ := s'
      refine ⟨rv, ?_⟩
      rw [← hn] at un2 ea q2 ⊢
      exact mk_endN (raises_own T.exC T.tyC) I1 (by rw [hn]; exact Nat.le_succ _) up un2 hok2 os2 bare2 ea ed hd1 q2
    | next => exact False.elim z
    | brk => exact False.elim z
    | cont => exact False.elim z
end
/-! ### isinstance of a caught error that has fields -/
section
open PySem.W PySem.Calls
variable {prog : Program} {w : World} {A : Around} {E : Value → Shared → Prop} {s : Shared} {K : PySem.W.Frag} {x D : Addr} {ox od : Obj}
/-- its class, asked as e.__class__: the class's own descriptor stands ahead of the error's dict -/
theorem exc_class {Q : Option Value → Shared → Prop} (T : ExcC K D) (X : K.In s.heap) (I : InstAt s.heap x ox D (some od)) (h : Q (some (.ref D)) { s with toks := s.toks + 1 }) : wpAny (model prog w) A (getAttr? (.ref x) "__class__") Q E s := by
  have isC : (clsIn K D).isSome = true := by obtain ⟨cd, hc, _⟩ := any_some T.hd; rw [hc]; rfl
  have found : findObj K D (some od) "__class__" = some (.bind (.builtin "getset_descriptor.__get__") (.builtin "object.__class__")) := findObj_data isC T.ha T.hn T.ht
  obtain ⟨hp, g, d, t, os⟩ := s
  have hook : (Value.builtin "BaseException.__getattribute__" == Value.builtin "object.__getattribute__") = false := by decide +kernel
  have ofType := I.type (M := model prog w)
  have ga := looks_findIn (M := model prog w) X T.hg
  have gat := looks_findIn (M := model prog w) X T.hk
  have fnd := looks_find (M := model prog w) X I found
  have isExc : Looks (model prog w) hp (isInstance (.ref x) (.type "BaseException")) true := ofType.andThen (looks_subIn X T.hs)
  have no1 : ¬ ((onTheHeap (Value.ref D) && Value.builtin "BaseException.__getattribute__" == Value.builtin "object.__getattribute__") = true) := by rw [hook]; simp
  have no2 : ¬ ((false && onTheHeap (Value.builtin "BaseException.__getattribute__")) = true) := by simp
  unfold getAttr? getAttrBy? getAttrBy getAttrByItsOwn hookBefore
  refine wpAny_bind (wpAny_mkText (wpAny_bind (wpAny_attempt (wpAny_holding (wpAny_bind (ofType.at (wpAny_bind (ga.at ?_))))))))
  show wpAny _ _ (if (onTheHeap (Value.ref D) && Value.builtin "BaseException.__getattribute__" == Value.builtin "object.__getattribute__") = true then _ else _) _ _ _
  rw [if_neg no1]
  refine wpAny_bind ?_
  rw [if_pos (show onTheHeap (Value.ref D) = true from rfl)]
  refine gat.at (wpAny_bind (wpAny_attempt (wpAny_holding ?_)))
  unfold callGetattribute boundAndCalled
  rw [if_neg no2, PySem.F.excAttr_ValueError.ga.bind (.ref x)]
  refine wpAny_bind (wpAny_pure ?_)
  show wpAny _ _ (call (.builtin "BaseException.__getattribute__") [.ref x, .str "__class__" t]) _ _ _
  refine wpAny_call (codeAny_call_builtin PySem.F.excAttr_ValueError.ga.plain PySem.F.entry_bexc_ga ?_)
  refine @check_slot (model prog w) _ _ ⟨hp, g, d, t + 1, os⟩ "BaseException.__getattribute__" "BaseException" "__getattribute__" (.ref x) [.str "__class__" t] [] _ (by decide +kernel) (by decide +kernel) isExc (PySem.F.args_bexc_ga (.ref x) (.str "__class__" t)) ?_
  unfold Builtin.«object.__getattribute__»
  refine wpAny_bind (wpAny_of_eq (a := ((Value.ref x : Value), [Value.str "__class__" t])) (by first | rfl | (simp only [slotArgs]; rfl)) ?_)
  refine wpAny_bind (wpAny_pure (wpAny_bind (ofType.at (wpAny_bind (fnd.at ?_)))))
  show wpAny _ _ (holding [Value.builtin "object.__class__"] (call (.builtin "getset_descriptor.__get__") [.builtin "object.__class__", .ref x, .ref D]) >>= ret) _ _ _
  refine wpAny_bind (wpAny_holding (wpAny_call (class_get (s := ⟨hp, g, d, t + 1, os⟩) (ox := ox) (od := some od) X I T.hm (wpAny_pure ?_))))
  show wpAny _ _ (handedOut (.ref D)) _ _ _
  rw [handedOut_of (v := .ref D) rfl]
  first
    | exact wpAny_pure (wpAny_pure h)
    | exact wpAny_pure h
    | exact wpAny_pure (wpAny_bind (wpAny_pure (wpAny_pure h)))
theorem kitx_excD (T : ExcC K D) : KitX K (.ref x) (.ref D) (fun h => InstAt h x ox D (some od)) where
  ty := fun _ _ _ I => I.type
  it := fun _ _ X _ => by
    obtain ⟨cdD, hcD, _⟩ := any_some T.hd
    unfold clsIn at hcD
    split at hcD
    · rename_i c' d' cd' sl' ho
      intro A' Q' E' s' k q
      unfold isType loadHead
      exact wpAny_bind (wpAny_loadPart (k _ _ (X _ _ ho)) (wpAny_pure q))
    · cases hcD
  ne := fun h tp dd its n sl X htp => by
    obtain ⟨cdD, hcD, _⟩ := any_some T.hd
    refine Bool.eq_false_iff.mpr fun q => ?_
    obtain rfl : D = tp := Value.ref.inj (beq_iff_eq.mp q)
    unfold clsIn at hcD
    split at hcD
    · rename_i c' d' cd' sl' ho
      cases (X _ _ ho).symm.trans htp
    · cases hcD
  ca := fun X I k => exc_class T X I k
end
/-- isinstance(e, C), e an error with fields -/
def rIsEF (K : PySem.W.Frag) (cls : Value) (d : Option Addr) (a : Addr) : List V → Hp → VK → Prop := fun xs H Q => ∃ (D dd : Addr) (fs : List (Str × V)), cls = .ref D ∧ d = some dd ∧ H dd = some (.xd fs) ∧ ExcC K D ∧ rIsE K D a xs H Q
theorem call_isExF {X : Cx} (K : PySem.W.Frag) (eK : X.K = K := by rfl) {a : Addr} {cls : Value} {d : Option Addr} {oe : Obj} {pn : List (Addr × Obj)} (hz : Zc cls d oe) (hf : ∃ vs, oe.data = .fields vs) :
    CallR (X.suite a ((a, oe) :: pn)) (.builtin "isinstance") (rIsEF K cls d a) := by
  subst eK
  intro pins s σ H xs us Q I r h
  obtain ⟨D, dd, fs, rfl, rfl, hd, C, c, cv, b, rfl, hcv, e, q⟩ := h
  cases r with
  | cons rx rr =>
    cases rr with
    | cons rt rr =>
      cases rr
      cases rx
      obtain rfl := hcv _ rt
      have at_ := (I.pin (a, oe) (List.mem_append.mpr (.inl List.mem_cons_self))).1
      obtain ⟨vs, hv⟩ := hf
      have hx : ObjOk X.prog X.w H s.heap dd (.xd fs) := I.hok dd _ hd
      obtain ⟨mA, hns, -⟩ := hx
      obtain ⟨od, ho, -⟩ := lookIn_ns hns
      have J : PySem.W.InstAt s.heap a oe D (some od) := ⟨at_, hz.1, by unfold PySem.W.notCls; rw [hv] <;> rfl, by rw [hz.2]; exact ho⟩
      exact PySem.W.kia_one (kitx_excD C) I.kIn J e (fun z => nomatch z) fun tk => ⟨.bl b, H, I.kept (t' := tk) fun _ _ z => z, rfl, q⟩
def eIsXF (cn0 : Str) (x : Ex) (cn : Str) : EM Dt := fun ρ => if x.c = cn0 ∧ x.fs.isEmpty = false then .ok (.bl (subX cn0 cn)) ρ else .stuck
section
variable {cl : Str → Option Addr} {K : PySem.W.Frag} {c : Fx} {ss : Ss}
theorem se_isxF {i : Nat} {a C0 C : Addr} {x : Ex} {cv : Value} {dx : Option Addr} {cn0 cn : Str} (hF : ∀ M, c.F.p M → XAt cl K M x cv dx) (hp : (i, V.ref a) ∈ c.F.pins) (hc : cl cn0 = some C0)
    (hE : ExcC K C0 ∧ PySem.W.kitOne K (.ref C0) (.ref C) = some (subX cn0 cn)) : SE cl K c ss .fz (tOpA (rIsEF K cv dx a) (tCons (tVar i) (tCons (tC (.ref C)) tNil))) (eIsXF cn0 x cn) := fun B Ai ρ σ H Q R p => by
  unfold eIsXF at p
  split at p
  · rename_i h
    obtain ⟨D, h1, h2, h3⟩ := hF _ R.fx
    obtain rfl : D = C0 := by rw [h.1, hc] at h1; exact (Option.some.inj h1).symm
    rcases h3 with ⟨h3, _⟩ | ⟨a', xs, h4, h5, h6, h7, h8⟩
    · rw [h3] at h; cases h.2
    · obtain ⟨Ai2, x2, R2, o2⟩ := R.res (q := c.q) (.old (.bl (subX cn0 cn)))
      exact ⟨.ref a, R.pin _ hp, D, a', xs, h2, h4, (mask_some.mp h6).2, hE.1, .ref C, .ref C, subX cn0 cn, rfl, fun u hu => hu, hE.2, p _ Ai2 H x2 R2 o2⟩
  · exact p.elim
end
/-! ### several except clauses, some with a name -/
/-- the suite of a clause with a name, seen from outside: the slot is the error's within, nothing behind it -/
def tAsN (i : Nat) (t : Addr → Value → Option Addr → TS) : Addr → Value → Option Addr → TS := fun a c dx E σ H =>
  t a c dx { nx := fun σ' H' => E.nx (σ'.set i none) H', rt := E.rt, bk := fun σ' H' => E.bk (σ'.set i none) H', ct := fun σ' H' => E.ct (σ'.set i none) H' } (σ.set i (some (.ref a))) H
abbrev ClauseT := Value × (Addr → Value → Option Addr → TS)
abbrev SuiteT (X : Cx) (su : List Stmt) (t : Addr → Value → Option Addr → TS) : Prop :=
  ∀ (a : Addr) (o : Obj) (k : Value) (dx : Option Addr) (pn : List (Addr × Obj)), Zc k dx o → (∃ z, o.data = .fields z) → PSs (X.suite a ((a, o) :: pn)) su (t a k dx)
inductive MixOk (X : Cx) : List ExceptHandler → List ClauseT → Prop
  | nil : MixOk X [] []
  | cons {x : Str} {C : Value} {t : Addr → Value → Option Addr → TS} {b : Stmt} {su : List Stmt} {p1 p2 : Pos} {r : List ExceptHandler} {l : List ClauseT} (hn : Names X x C) (hs : SuiteT X (b :: su) t) (hr : MixOk X r l) :
      MixOk X (.ExceptHandler (some (.Name x p1)) none (b :: su) p2 :: r) ((C, t) :: l)
  | asN {x n : Str} {i : Nat} {C : Value} {t : Addr → Value → Option Addr → TS} {b : Stmt} {su : List Stmt} {p1 p2 : Pos} {r : List ExceptHandler} {l : List ClauseT} (hN : X.N.Nodup) (hi : X.N[i]? = some n) (hk : X.env.kindOf n = some .local) (hn : Names X x C) (hs : SuiteT X (b :: su) t) (hr : MixOk X r l) :
      MixOk X (.ExceptHandler (some (.Name x p1)) (some n) (b :: su) p2 :: r) ((C, tAsN i t) :: l)
section
variable {X : Cx} {body : List Stmt} {h0 : ExceptHandler} {r0 : List ExceptHandler} {l : List ClauseT} {pos : Pos} {tb : WX → TS} {Wo : WX}
theorem ps_try_mix (st : X.stack = X.env :: X.outer) (fr : X.env.frame = some X.env.locals) (tk : Takes X Wo)
    (hb : ∀ (W : WX) (pn : List (Addr × Obj)) (xe : Value → Shared → Prop), Takes (X.tr pn xe) W → PassesOwn (model X.prog X.w) X.A X.env xe → PSs (X.tr pn xe) body (tb W))
    (hm : MixOk X (h0 :: r0) l) : PS X (.Try body (h0 :: r0) [] [] pos) (fun D σ H => tb (wMany X.K Wo D l) D σ H) := by
  constructor
  intro pins s σ H D J0 hw
  have ok := J0.ok
  have frs_ : X.A.frames = some (X.env :: X.outer) := ok.frames.trans (congrArg some st)
  apply wpAny_Try_except
  apply wpAny_mono ((hb (wMany X.K Wo D l) (X.pn ++ pins) (fun e z => wpAny (model X.prog X.w) X.A (noteFrame e X.env) (fun _ z2 => wpAny (model X.prog X.w) X.A (setFlight e none) (fun _ z3 => wpAny (model X.prog X.w) X.A (handleBy e X.env (h0 :: r0)) (SP X pins D) X.xe z3) X.xe z2) X.xe z) ?tk PassesOwn.looking).run [] s σ H D (J0.toTry _) hw) ?fin (fun _ _ z => z)
  case fin =>
    intro fl z q
    cases fl with
    | next => obtain ⟨σ1, H1, J1, q1⟩ := q; exact wpAny_execs_nil ⟨σ1, H1, J1.ofTry ok, q1⟩
    | brk => obtain ⟨σ1, H1, J1, q1⟩ := q; exact ⟨σ1, H1, J1.ofTry ok, q1⟩
    | cont => obtain ⟨σ1, H1, J1, q1⟩ := q; exact ⟨σ1, H1, J1.ofTry ok, q1⟩
    | ret v => obtain ⟨v1, σ1, H1, J1, rv, q1⟩ := q; exact ⟨v1, σ1, H1, J1.ofTry ok, rv, q1⟩
  case tk =>
    rintro u z ⟨a, B, zi, pins1, σ1, H1, k, dx, rfl, J1, nb, up, sky, na, os, ag, w⟩
    have J2 : Inv X pins σ1 H1 zi := J1.ofTry ok
    rw [st] at sky
    show wpAny _ _ (noteFrame (.ref a) X.env) _ _ _
    apply Sky.land Zc.steady frs_ fr sky
    intro h3 F3 up3
    have J3 : Inv X pins σ1 H1 { z with heap := h3 } := J2.landed nb F3.1 (up.trans up3) os ag
    obtain ⟨o3, v3, g3, z3, d3⟩ := F3.there
    have away : a ∉ frs (X.env :: X.outer) := fun y => by
      obtain ⟨_, o', e', no⟩ := F3.2.2.1.mem y
      rw [g3] at e'
      cases e'
      exact no _ d3
    have n1 : a ≠ X.env.locals := fun y => away (List.mem_filterMap.mpr ⟨X.env, .head _, by rw [fr, y]⟩)
    have n2 : a ∉ X.fs := fun y => by
      obtain ⟨e, he, q⟩ := List.mem_filterMap.mp y
      exact away (List.mem_filterMap.mpr ⟨e, .tail _ he, q⟩)
    have S3 := J3.suite g3 d3 na n1 n2
    have key : ∀ {r : List ExceptHandler} {m : List ClauseT}, MixOk X r m → wMany X.K Wo D m k dx σ1 H1 → wpAny (model X.prog X.w) X.A (handleBy (.ref a) X.env r) (SP X pins D) X.xe { z with heap := h3 } := by
      intro r m hr
      -- the test of a clause
      have tst : ∀ {x : Str} {C : Value} {p1 : Pos}, Names X x C → ∀ {Q E : Value → Shared → Prop}, Q C { z with heap := h3 } → wpAny (model X.prog X.w) (X.A.mark (some (.ref a))) (eval (.Name x p1) X.env) Q E { z with heap := h3 } := fun {x C p1} hn {Q E} q => by
        obtain ⟨g, db, y | ⟨y, yv, yn⟩⟩ := hn
        · exact ld_glob (X := X.suite a ((a, o3) :: (X.pn ++ pins))) S3 g y q db
        · exact ld_blt (X := X.suite a ((a, o3) :: (X.pn ++ pins))) S3 g y yv q yn db
      have lk : PySem.W.Looks (model X.prog X.w) h3 (typeOf (.ref a)) k := fun A Q E s kk q => wpAny_typeOf_ref (kk _ _ g3) (by rw [z3.1]; exact q)
      have back : ∀ {o4 : Obj} {f : Flow} {z6 : Shared}, SP (X.suite a ((a, o4) :: (X.pn ++ pins))) [] D f z6 → SP X pins D f z6 := fun {o4 f z6} q => by
        cases f with
        | next => obtain ⟨σ6, H6, S6, q6⟩ := q; exact ⟨_, _, S6.unsuite ok, q6⟩
        | brk => obtain ⟨σ6, H6, S6, q6⟩ := q; exact ⟨_, _, S6.unsuite ok, q6⟩
        | cont => obtain ⟨σ6, H6, S6, q6⟩ := q; exact ⟨_, _, S6.unsuite ok, q6⟩
        | ret u => obtain ⟨v6, σ6, H6, S6, r6, q6⟩ := q; exact ⟨_, _, _, S6.unsuite ok, r6, q6⟩
      induction hr with
      | nil =>
        intro w
        apply wpAny_handleBy_nil
        obtain ⟨_, _, _, oe, vs, T, oT, tr, he, hz, hd, h1, hr⟩ := id F3
        unfold PySem.passOn
        apply wpAny_bind
        apply wpAny_field he hd h1
        rw [if_neg (show ¬ ((Value.ref T == Value.none) = true) by simp)]
        have out : wpAny (model X.prog X.w) X.A (setFlight (.ref a) X.env.frame) (fun _ y => wpAny (model X.prog X.w) X.A (throw (.ref a) : Sem Flow) (SP X pins D) X.xe y) X.xe { z with heap := h3 } := by
          rw [fr]
          exact HandSPX.setFlight_upZ F3 fun h4 c4 up4 => wpAny_throw (tk _ _ ⟨a, B, zi, pins, σ1, H1, k, dx, rfl, J2, nb, (up.trans up3).trans up4, .inr (.inr (by rw [st]; exact c4)), na, os, ag, w⟩)
        first
          | exact wpAny_bind (wpAny_pure (wpAny_bind out))
          | exact wpAny_bind out
      | @cons x C t b su p1 p2 r l hn hs hr ih =>
        rintro ⟨y, hy, hyes, hno⟩
        apply wpAny_handleBy_cons (codeAny_handlers_test ?_) (by intro q; cases q)
        apply tst hn
        apply (PySem.W.exm_one (M := model X.prog X.w) J3.kIn lk hy).here
        cases y with
        | false => exact ih (hno rfl)
        | true =>
          apply codeAny_handlers_suite
          apply HandSPX.lands_againZ F3
          intro h4 F4 up4
          have J4 : Inv X pins σ1 H1 { z with heap := h4 } := J2.landed nb F4.1 ((up.trans up3).trans up4) os ag
          obtain ⟨o4, v4, g4, z4, d4⟩ := F4.there
          exact wpAny_mono ((hs a o4 k dx (X.pn ++ pins) z4 ⟨_, d4⟩).run [] _ _ H1 _ (J4.suite g4 d4 na n1 n2) (hyes rfl a na)) (fun f z6 q => back q) (fun _ _ y => y.elim)
      | @asN x n i C t b su p1 p2 r l hN hi hk hn hs hr ih =>
        rintro ⟨y, hy, hyes, hno⟩
        apply wpAny_handleBy_cons (codeAny_handlers_test ?_) (by intro q; cases q)
        apply tst hn
        apply (PySem.W.exm_one (M := model X.prog X.w) J3.kIn lk hy).here
        cases y with
        | false => exact ih (hno rfl)
        | true =>
          apply codeAny_handlers_suite_as
          apply HandSPX.lands_againZ F3
          intro h4 F4 up4
          have J4 : Inv X pins σ1 H1 { z with heap := h4 } := J2.landed nb F4.1 ((up.trans up3).trans up4) os ag
          obtain ⟨o4, v4, g4, z4, d4⟩ := F4.there
          apply store_ok (X := X.suite a ((a, o4) :: (X.pn ++ pins))) (v := .ref a) (J4.suite g4 d4 na n1 n2) hN hi (.inl hk) rfl ?_ (.inr hk)
          intro z5 S5
          apply wpAny_mono ((hs a o4 k dx (X.pn ++ pins) z4 ⟨_, d4⟩).run [] z5 _ H1 _ S5 (hyes rfl a na)) ?_ (fun _ _ y => y.elim)
          intro f z6 q
          have gone : ∀ {σ6 : L2.St} {H6 : Hp} {Q : Shared → Prop}, Inv (X.suite a ((a, o4) :: (X.pn ++ pins))) [] σ6 H6 z6 → (∀ z7, Inv X pins (σ6.set i none) H6 z7 → Q z7) →
              wpAny (model X.prog X.w) X.A (do bindName X.env n .none; unbindBehindTheSuite X.env n p2) (fun _ z7 => Q z7) X.xe z6 := fun {σ6 H6 Q} S6 hq => gone_ok (S6.unsuite ok) hN hi hk hq
          cases f with
          | next => obtain ⟨σ6, H6, S6, q6⟩ := q; exact gone S6 fun z7 J7 => ⟨_, _, J7, q6⟩
          | brk => obtain ⟨σ6, H6, S6, q6⟩ := q; exact gone S6 fun z7 J7 => ⟨_, _, J7, q6⟩
          | cont => obtain ⟨σ6, H6, S6, q6⟩ := q; exact gone S6 fun z7 J7 => ⟨_, _, J7, q6⟩
          | ret u => obtain ⟨v6, σ6, H6, S6, r6, q6⟩ := q; exact gone S6 fun z7 J7 => ⟨_, _, _, J7, r6, q6⟩
    exact key hm w
end
theorem sh_asN {cl : Str → Option Addr} {K : PySem.W.Frag} {c : Fx} {ss ss' : Ss} {i : Nat} {a : Addr} {ts : Addr → Value → Option Addr → TS} {h : Ex → SM} (hs : ∀ x cv dx, SS cl K (suFx cl K c x cv dx [(i, .ref a)]) ss ss' (ts a cv dx) (h x)) (hk : c.kp i = false := by rfl) (hp : (c.F.pins.map (·.1)).contains i = false := by rfl) :
    SH cl K c ss ss' (tAsN i ts a) (fun x => sAs i (h x)) := sh_as hs hk hp
/-! ### a thing set aside while other things are read -/
def rmH (H : Hp) (p : Addr) : Hp := fun a => if a = p then none else H a
theorem rmH_ne {H : Hp} {p a : Addr} (h : a ≠ p) : rmH H p a = H a := if_neg h
theorem rmH_self {H : Hp} {p : Addr} : rmH H p p = none := if_pos rfl
theorem rmH_upd {H : Hp} {p : Addr} {o : HO} : upd (rmH H p) p o = upd H p o := by
  funext a
  by_cases h : a = p
  · subst h; rw [upd_same, upd_same]
  · rw [upd_ne h, upd_ne h, rmH_ne h]
theorem upd_id {H : Hp} {p : Addr} {o : HO} (h : H p = some o) : upd (rmH H p) p o = H := by
  funext a
  by_cases e : a = p
  · subst e; rw [upd_same, h]
  · rw [upd_ne e, rmH_ne e]
section
variable {cl : Str → Option Addr} {K : PySem.W.Frag} {F : FP} {c : Fx} {q : Bool} {B : Addr → Prop} {Ai Ai' Ai1 Ai2 : Nat → Addr → Prop} {ss ss' : Ss} {ρ ρ' : Env} {σ σ' : L2.St} {M H H' H1 H2 : Hp} {v : V} {d : Dt} {s : Sh} {p : Addr} {o : HO}
  {te : TE} {e : EM Dt}
abbrev orP (B : Addr → Prop) (p : Addr) : Addr → Prop := fun a => B a ∨ a = p
theorem Rep.park (R : Rep cl K F B Ai ss ρ σ H) (n : H p = none) : Rep cl K F (orP B p) Ai ss ρ σ (upd H p o) := by
  have ne : ∀ a, H a ≠ none → a ≠ p := fun a h z => h (by rw [z]; exact n)
  have sm : Same (MH B Ai H) (MH (orP B p) Ai (upd H p o)) := fun a u e => by
    obtain ⟨h1, h2⟩ := mask_some.mp e
    have ha : a ≠ p := ne a (by rw [h2]; exact fun z => nomatch z)
    refine mask_some.mpr ⟨fun z => ?_, by rw [upd_ne ha]; exact h2⟩
    rcases z with (z | z) | z
    · exact h1 (.inl z)
    · exact ha z
    · exact h1 (.inr z)
  refine ⟨R.len, fun i d e => ?_, R.dj, fun i a h z => ?_, fun i a h => ?_, fun a h => ?_, F.mono _ _ sm R.fx, R.pin⟩
  · obtain ⟨v, h1, h2⟩ := R.row i d e
    exact ⟨v, h1, h2.mono sm fun a ha => upd_ne (ne a (R.al i a ha))⟩
  · rcases z with z | z
    · exact R.nb i a h z
    · exact ne a (R.al i a h) z
  · rw [upd_ne (ne a (R.al i a h))]; exact R.al i a h
  · rcases h with h | h
    · rw [upd_ne (ne a (R.hb a h))]; exact R.hb a h
    · rw [h, upd_same]; exact fun z => nomatch z
theorem mh_unpark : MH B Ai (rmH H p) = MH (orP B p) Ai H := by
  funext a
  show (mask (MO B Ai) (rmH H p)) a = (mask (MO (orP B p) Ai) H) a
  unfold mask
  by_cases h : MO B Ai a
  · have h2 : MO (orP B p) Ai a := h.imp .inl id
    rw [if_pos h, if_pos h2]
  · rw [if_neg h]
    by_cases e : a = p
    · rw [if_pos (show MO (orP B p) Ai a from .inl (.inr e)), e, rmH_self]
    · have h2 : ¬ MO (orP B p) Ai a := fun z => by
        rcases z with (z | z) | z
        · exact h (.inl z)
        · exact e z
        · exact h (.inr z)
      rw [if_neg h2, rmH_ne e]
theorem Rep.unpark (R : Rep cl K F (orP B p) Ai ss ρ σ H) (hb : ¬ B p) : Rep cl K F B Ai ss ρ σ (rmH H p) := by
  have np : ∀ i a, Ai i a → a ≠ p := fun i a h z => R.nb i a h (.inr z)
  refine ⟨R.len, fun i d e => ?_, R.dj, fun i a h z => R.nb i a h (.inl z), fun i a h => by rw [rmH_ne (np i a h)]; exact R.al i a h, fun a h => ?_, by rw [mh_unpark]; exact R.fx, R.pin⟩
  · obtain ⟨v, h1, h2⟩ := R.row i d e
    refine ⟨v, h1, ?_⟩
    rw [mh_unpark]
    exact h2.mono (Same.refl _) fun a ha => rmH_ne (np i a ha)
  · rw [rmH_ne (fun z => hb (by rw [← z]; exact h))]; exact R.hb a (.inl h)
theorem Ext.unpark (x : Ext q (orP B p) Ai (upd H p o) Ai2 H2) (n : H p = none) (hb : ∀ a, B a → H a ≠ none) : Ext q B Ai H Ai2 (rmH H2 p) ∧ H2 p = some o := by
  have ne : ∀ a, H a ≠ none → a ≠ p := fun a h z => h (by rw [z]; exact n)
  refine ⟨⟨fun a h => ?_, fun a u h1 h2 h3 => ?_, fun hq a u h => ?_⟩, by rw [x.old p (.inr rfl), upd_same]⟩
  · have ha := ne a (hb a h)
    rw [rmH_ne ha, x.old a (.inl h), upd_ne ha]
  · have ha := ne a (by rw [h3]; exact fun z => nomatch z)
    obtain ⟨k1, k2⟩ := x.fro a u (fun z => z.elim h1 ha) h2 (by rw [upd_ne ha]; exact h3)
    exact ⟨k1, by rw [rmH_ne ha]; exact k2⟩
  · have ha := ne a (by rw [h]; exact fun z => nomatch z)
    rw [rmH_ne ha]
    exact x.qt hq a u (by rw [upd_ne ha]; exact h)
theorem XPost.park {x : Ex} (R : Rep cl K c.F B Ai ss ρ σ H) (n : H p = none) (h : XPost cl K c B Ai σ H x ρ') : XPost cl K c (orP B p) Ai σ (upd H p o) x ρ' := fun cv dx σ' Ai' H' x1 R1 k1 hx => by
  obtain ⟨x2, hp⟩ := x1.unpark n R.hb
  have nb : ¬ B p := fun z => R.hb p z n
  have R2 := R1.unpark nb
  obtain ⟨R3, x3⟩ := R2.new (q := c.q) (o := o) (rmH_self (H := H') (p := p))
  rw [upd_id hp] at R3 x3
  refine h cv dx σ' Ai' H' (x2.trans x3) R3 k1 ?_
  rw [← mh_unpark] at hx
  exact hx.mono x3.same
/-! ### {k: v} -/
def eDic1 (k : Key) (e : EM Dt) : EM Dt := fun ρ => (e ρ).bind fun d ρ1 => .ok (.dic [(kD k, d)]) ρ1
theorem sn_dic1 {k : Key} (h : SE cl K c ss .fz te e) : SE cl K c ss (.dc .fz) (tDisp [(tC (kV k), te)]) (eDic1 k e) := fun B Ai ρ σ H Q R p => by
  unfold eDic1 at p
  intro a n
  have nb : ¬ B a := fun z => R.hb a z n
  refine h.use (R.park (o := .dK []) n) (fun d ρ1 e1 v Ai1 H1 x1 R1 o1 => ?_) (fun x ρ1 e1 => by rw [e1] at p; exact XPost.park R n p) fun e1 => by rw [e1] at p; exact p
  simp only [e1, Er.bind] at p
  obtain ⟨x2, hp⟩ := x1.unpark n R.hb
  have R2 := R1.unpark nb
  have at1 := o1.fzAt.1
  rw [← mh_unpark] at at1
  obtain ⟨Ai3, x3, R3, o3⟩ := R2.own (q := c.q) (o := .dK [(k, v)]) (rmH_self (H := H1) (p := a)) (NewO.dic (p := a) (xs := [(k, v)]) (ds := [(kD k, d)]) rfl (fun i k' v' kd d' h1 h2 => by
    cases i with
    | zero => simp at h1 h2; rw [← h2.1, ← h1.1]
    | succ i => simp at h1) (fun i k' v' kd d' h1 h2 => by
    cases i with
    | zero => simp at h1 h2; rw [← h1.2, ← h2.2]; exact at1
    | succ i => simp at h1)) (fun z => nomatch z)
  rw [rmH_upd] at x3 R3 o3
  refine ⟨hp, [(k, v)], rfl, by show 1 ≤ 15; decide, ?_⟩
  exact p _ Ai3 _ (x2.trans x3) R3 o3
end
/-! ### k in range(n) -/
abbrev rRg1 : List V → Hp → VK → Prop := fun vs H Q => ∃ j, vs = [V.int j] ∧ ∀ p, H p = none → Q (.ref p) (upd H p (.rng 0 j))
abbrev rInRg (neg : Bool) : V → V → Hp → VK → Prop := fun x y H Q => ∃ i a lo hi, x = V.int i ∧ y = V.ref a ∧ H a = some (.rng lo hi) ∧ Q (.bl (ng neg (decide (lo ≤ i ∧ i < hi)))) H
theorem cr_range1K {X : Cx} : CallR X (.type "range") rRg1 := by
  intro pins s σ H vs us Q I r h
  obtain ⟨j, rfl, q⟩ := h
  obtain ⟨u, rfl, ru⟩ := vals1 r
  obtain ⟨t, rfl⟩ := ru
  apply call_range_1
  exact ⟨.ref s.heap.objs.size, _, I.laid (a := s.heap.objs.size) (o := .rng 0 j) (t' := s.toks + 1 + 1) (fun b o e => Heap.get?_push_of_some _ e) (Nat.le_refl _) ⟨s.toks, t, s.toks + 1, Heap.get?_push_size _ rfl⟩, rfl, q _ (I.hok.fresh (Nat.le_refl _))⟩
theorem op_inRgK {X : Cx} : OpR X (compareOp .In) (rInRg false) := op_in_rng
theorem op_notInRgK {X : Cx} : OpR X (compareOp .NotIn) (rInRg true) := by
  intro pins s σ H x y v u Q I rx ry h
  obtain ⟨i, a, lo, hi, rfl, rfl, ha, q⟩ := h
  obtain ⟨k, rfl⟩ := rx
  obtain rfl : u = Value.ref a := ry
  obtain ⟨t1, t2, t3, ho⟩ := I.hok a _ ha
  show wpAny _ _ (do return Value.bool (!(← contains (Value.ref a) (Value.int i k)))) _ _ s
  have ty : s.TypeIs (.ref a) "range" := ⟨_, ho, rfl⟩
  refine wpAny_bind (wpAny_contains_slot ty F.slot_range_contains ?_)
  refine call_meets F.slot_range_contains ty F.entry_range_contains (F.args_range_contains_2 _ _) (q_contains a lo hi i t1 t2 t3 k) ?_
  refine ⟨ho, wpAny_truthy_bool (wpAny_pure ⟨.bl (ng true (decide (lo ≤ i ∧ i < hi))), H, I, ?_, q⟩)⟩
  rw [place1]
  rfl
def eInR (neg : Bool) (a n : EM Dt) : EM Dt := fun ρ => (a ρ).bind fun x ρ1 => (n ρ1).bind fun y ρ2 => match x, y with
  | .int i, .int k => .ok (.bl (ng neg (decide (0 ≤ i ∧ i < k)))) ρ2
  | _, _ => .stuck
section
variable {cl : Str → Option Addr} {K : PySem.W.Frag} {c : Fx} {ss : Ss} {ta tn : TE} {a n : EM Dt}
theorem At.intV {cl : Str → Option Addr} {K : PySem.W.Frag} {M : Hp} {v : V} {i : Int} (h : At cl K M v (.int i)) : v = .int i := by cases h; rfl
theorem se_inR {neg : Bool} (h1 : SE cl K c ss .fz ta a) (h2 : SE cl K c ss .fz tn n) : SE cl K c ss .fz (tOp (rInRg neg) ta (tCB rRg1 (tCons tn tNil))) (eInR neg a n) := fun B Ai ρ σ H Q R p => by
  unfold eInR at p
  refine h1.use R (fun d ρ1 e1 v Ai1 H1 x1 R1 o1 => ?_) (fun x ρ1 e1 => by rw [e1] at p; exact p) fun e1 => by rw [e1] at p; exact p
  simp only [e1, Er.bind] at p
  refine h2.use R1 (fun d2 ρ2 e2 v2 Ai2 H2 x2 R2 o2 => ?_) (fun x ρ2 e2 => by rw [e2] at p; exact XPost.ext x1 p) fun e2 => by rw [e2] at p; exact p
  simp only [e2] at p
  split at p
  · rename_i i k
    obtain rfl := o1.fzAt.1.intV
    obtain rfl := o2.fzAt.1.intV
    refine ⟨k, rfl, fun q hq => ?_⟩
    obtain ⟨R3, x3⟩ := R2.new (q := c.q) (o := .rng 0 k) hq
    obtain ⟨Ai4, x4, R4, o4⟩ := R3.res (q := c.q) (.old (.bl (ng neg (decide (0 ≤ i ∧ i < k)))))
    exact ⟨i, q, 0, k, rfl, rfl, upd_same, p _ Ai4 _ (((x1.trans x2).trans x3).trans x4) R4 o4⟩
  · exact p.elim
end
/-! ### a, b, .. = a list -/
def gLstD (gs : List (Dt → Env → Option Env)) : Dt → Env → Option Env := fun d ρ => match lstI d with
  | some ds => gAll gs ds ρ
  | none => none
section
variable {cl : Str → Option Addr} {K : PySem.W.Frag} {c : Fx} {ss ss' : Ss}
theorem sg_lst {tgs : TGs} {gs : List (Dt → Env → Option Env)} {n : Nat} (h : SGs cl K c ss ss' tgs gs) (hn : gs.length = n := by rfl) : SG cl K c ss ss' (gLst K n tgs) (gLstD gs) := fun B Ai ρ σ H v d ρ' Q R ha e q => by
  unfold gLstD at e
  cases hl : lstI d with
  | none => rw [hl] at e; cases e
  | some ds =>
    rw [hl] at e
    obtain ⟨a, xs, rfl, h1, h2, h3⟩ := (Bor.at ha (H := H)).lsts mask_same hl
    exact ⟨a, xs, rfl, h1, by rw [h2, gAll_len e, hn], h B Ai ρ σ H xs ds ρ' Q R h2 h3 e q⟩
end
/-! ### a new object, whose field (a dict) is locked from now on -/
def tFrzEF (t : TE) : TE := fun σ H Q => t σ H fun v H1 => ∃ a u, H1 a = some u ∧ Mut (some u) ∧ ∀ od, Q v (upd H1 a (.frz od u))
theorem pe_frzF {X : Cx} {e : Expr} {t : TE} (h : PE X e t) : PE X e (tFrzEF t) := by
  refine ⟨fun pins s σ H Q I hw => ?_⟩
  refine thn (h.run pins s σ H _ I hw) fun v s1 ⟨x, H1, I1, r, a, u, hd, mu, q⟩ => ?_
  obtain ⟨od, I2⟩ := I1.lock hd mu
  exact ⟨x, _, I2, r, q od⟩
def eFrzF (g : Str) (e : EM Dt) : EM Dt := fun ρ => (e ρ).bind fun d ρ1 => match d with
  | .obj cn fs => (match fs.lookup g with | some (.dic l) => .ok (.obj cn (setFD g (.rdc l) fs)) ρ1 | _ => .stuck)
  | _ => .stuck
section
variable {cl : Str → Option Addr} {K : PySem.W.Frag} {c : Fx} {ss : Ss} {t : TE} {e : EM Dt} {g : Str}
theorem se_frzF (h : SE cl K c ss (.of g (.dc .fz) .ob) t e) (hqq : c.q = false := by rfl) : SE cl K c ss .fz (tFrzEF t) (eFrzF g e) := fun B Ai ρ σ H Q R p => by
  unfold eFrzF at p
  refine h.use R (fun d ρ1 e1 v Ai1 H1 x1 R1 o1 => ?_) (fun x ρ1 e1 => by rw [e1] at p; exact p) fun e1 => by rw [e1] at p; exact p
  simp only [e1, Er.bind] at p
  cases d with
  | obj cn fs =>
    simp only at p
    cases el : fs.lookup g with
    | none => rw [el] at p; exact p.elim
    | some z0 =>
      rw [el] at p
      cases z0 with
      | dic l =>
        simp only at p
        cases o1 with
        | @ob pp C dx _ _ xs _ _ Af hob hp hcl hlen hlk hf hdj hnp hA hsm =>
          have es := hlk g
          rw [el] at es
          obtain ⟨vg, evg⟩ := Option.isSome_iff_exists.mp es
          have og := hf g vg _ evg el
          rw [show Sh.fld (.of g (.dc .fz) .ob) g = .dc .fz from if_pos rfl] at og
          obtain ⟨a, o, rfl, ha, mu, _, hAg, z, ez, hz⟩ := og.dsFz rfl
          cases ez
          have hag : Ai1 σ.length a := (hA a).mpr (.inr ⟨g, (hAg a).mpr rfl⟩)
          have hpp : Ai1 σ.length pp := (hA pp).mpr (.inl rfl)
          have hne : pp ≠ a := fun y => hnp g (by rw [y]; exact (hAg a).mpr rfl)
          refine ⟨a, o, ha, mu, fun od => ?_⟩
          obtain ⟨R2, x2⟩ := R1.step (q := c.q) (k := σ.length) (A := fun _ => False) (H' := upd H1 a (.frz od o)) (ρ' := ρ1) (σ' := σ) (ss' := ss) (fun _ z => z.elim) (fun _ z => z.elim)
            (fun b u na e => by rw [upd_ne (fun y => na (by rw [y]; exact hag))]; exact e) R1.len (fun _ _ => rfl) (fun y => by rw [hqq] at y; cases y)
            (fun j d e hj => by
              obtain ⟨v, q1, q2⟩ := R1.row j d e
              exact ⟨v, q1, .inl ⟨e, q1, rfl⟩⟩)
            (fun d e => by rw [← R1.len, List.getElem?_eq_none (Nat.le_refl _)] at e; cases e)
          have free : ∀ b, Ai1 σ.length b → ¬ MO B (setA Ai1 σ.length fun _ => False) b := fun b hb y => by
            rcases y with y | ⟨j, y⟩
            · exact R1.nb σ.length b hb y
            · rcases setA_imp y with ⟨_, y⟩ | ⟨hj, y⟩
              · exact y.elim
              · exact hj (R1.dj j σ.length b y hb)
          have sm : Same (MH B Ai1 H1) (MH B (setA Ai1 σ.length fun _ => False) (upd H1 a (.frz od o))) := fun b u e => by
            obtain ⟨n1, n2⟩ := mask_some.mp e
            refine mask_some.mpr ⟨fun y => n1 ?_, ?_⟩
            · rcases y with y | ⟨j, y⟩
              · exact .inl y
              · rcases setA_imp y with ⟨_, y⟩ | ⟨_, y⟩
                · exact y.elim
                · exact .inr ⟨j, y⟩
            · rw [upd_ne (fun y => n1 (.inr ⟨σ.length, by rw [y]; exact hag⟩))]; exact n2
          refine p (.ref pp) _ _ (x1.trans x2) R2 (.fz (.obj (mask_some.mpr ⟨free pp hpp, by rw [upd_ne hne]; exact hp⟩) hcl (fun k => ?_) fun k v d e1 e2 => ?_) fun b => by rw [setA_same]; exact fun y => y)
          · rw [lookup_putFD]
            by_cases hk : k = g
            · rw [if_pos hk, hk, evg]; rfl
            · rw [if_neg hk]; exact hlk k
          · rw [lookup_putFD] at e2
            by_cases hk : k = g
            · subst hk
              rw [if_pos rfl] at e2
              cases e2
              rw [evg] at e1
              cases e1
              exact hz _ od sm (mask_some.mpr ⟨free a hag, upd_same⟩)
            · rw [if_neg hk] at e2
              have ok := hf k v d e1 e2
              rw [show Sh.fld (.of g (.dc .fz) .ob) k = .fz from by show (if g = k then _ else Sh.fld .ob k) = _; rw [if_neg (fun y => hk y.symm)]; rfl] at ok
              exact ok.fzAt.1.mono sm
      | _ => exact p.elim
  | _ => exact p.elim
end
/-! ### tuple(range(..)); a call with what is held, whose value is a new list of plain things -/
def eRgT1 (e : EM Dt) : EM Dt := fun ρ => (e ρ).bind fun d ρ1 => match d with | .int n => if rgB 0 n = true then .ok (.tup (rngL 0 n.toNat)) ρ1 else .stuck | _ => .stuck
def eRgT2 (a b : EM Dt) : EM Dt := fun ρ => (a ρ).bind fun d ρ1 => (b ρ1).bind fun z ρ2 => match d, z with | .int n, .int m => if rgB n m = true then .ok (.tup (rngL n (m - n).toNat)) ρ2 else .stuck | _, _ => .stuck
def eKeepN (e : EM Dt) : EM Dt := fun ρ => match e ρ with
  | .ok (.lst l) _ => if l.all flatB = true then .ok (.lst l) ρ else .stuck
  | .ok _ _ => .stuck
  | .ex e ρ' => .ex e ρ'
  | .stuck => .stuck
section
variable {cl : Str → Option Addr} {K : PySem.W.Frag} {c : Fx} {B : Addr → Prop} {Ai Ai' : Nat → Addr → Prop} {ss ss0 : Ss} {ρ ρ' : Env} {σ : L2.St} {M H : Hp} {v : V} {d : Dt} {ta tb te : TE} {e a b : EM Dt}
theorem se_rgT1 (h : SE cl K c ss .fz ta e) : SE cl K c ss .fz (tTupRg (tRg1 ta)) (eRgT1 e) := fun B Ai ρ σ H Q R p => by
  unfold eRgT1 at p
  refine h.use R (fun d ρ1 e1 v Ai1 H1 x1 R1 o1 => ?_) (fun x ρ1 e1 => by rw [e1] at p; exact p) fun e1 => by rw [e1] at p; exact p
  simp only [e1, Er.bind] at p
  cases d with
  | int n =>
    dsimp only at p
    split at p
    · rename_i hb
      obtain rfl := Bor.int (.at o1.fzAt.1) (H := H1)
      refine ⟨n, rfl, rgB_at hb, fun q hq => ?_⟩
      rw [rgV_map, rngL_rg, Int.sub_zero] at *
      obtain ⟨Ai2, x2, R2, o2⟩ := R1.res (.new hq (NewO.tupA (ats_ints _)))
      exact p _ Ai2 _ (x1.trans x2) R2 o2
    · exact p.elim
  | _ => exact p.elim
theorem se_rgT2 (h : SE cl K c ss .fz ta a) (h' : SE cl K c ss .fz tb b) : SE cl K c ss .fz (tTupRg (tRg2 ta tb)) (eRgT2 a b) := fun B Ai ρ σ H Q R p => by
  unfold eRgT2 at p
  refine h.use R (fun d ρ1 e1 v Ai1 H1 x1 R1 o1 => ?_) (fun x ρ1 e1 => by rw [e1] at p; exact p) fun e1 => by rw [e1] at p; exact p
  simp only [e1, Er.bind] at p
  refine h'.use R1 (fun d2 ρ2 e2 v2 Ai2 H2 x2 R2 o2 => ?_) (fun x ρ1 e2 => by simp only [e2] at p; exact XPost.ext x1 p) fun e2 => by simp only [e2] at p; exact p
  simp only [e2] at p
  have b1 : Bor cl K (MH B Ai2 H2) H2 v d := .at (o1.fzAt.1.mono x2.same)
  have b2 : Bor cl K (MH B Ai2 H2) H2 v2 d2 := .at o2.fzAt.1
  cases d with
  | int n =>
    cases d2 with
    | int m =>
      dsimp only at p
      split at p
      · rename_i hb
        obtain rfl := b1.int
        obtain rfl := b2.int
        refine ⟨n, m, rfl, rfl, rgB_at hb, fun q hq => ?_⟩
        rw [rgV_map]
        rw [rngL_rg] at p
        obtain ⟨Ai3, x3, R3, o3⟩ := R2.res (.new hq (NewO.tupA (ats_ints _)))
        exact p _ Ai3 _ ((x1.trans x2).trans x3) R3 o3
      · exact p.elim
    | _ => exact p.elim
  | _ => exact p.elim
theorem Rep.clear {F : FP} {q : Bool} (R : Rep cl K F B Ai [] ρ σ H) : Rep cl K F B (fun _ _ => False) [] ρ σ H ∧ Ext q B Ai H (fun _ _ => False) H := by
  have x : Ext q B Ai H (fun _ _ => False) H := ⟨fun _ _ => rfl, fun a o _ na e => ⟨fun _ z => z, e⟩, fun _ => Same.refl _⟩
  refine ⟨⟨R.len, fun j d e => ?_, fun _ _ _ z => z.elim, fun _ _ z => z.elim, fun _ _ z => z.elim, R.hb, F.mono _ _ x.same R.fx, R.pin⟩, x⟩
  obtain ⟨v, h1, h2⟩ := R.row j d e
  have h2 : Own cl K (MH B Ai H) H .fz v d (Ai j) := h2
  exact ⟨v, h1, .fz (h2.fzAt.1.mono x.same) fun _ z => z⟩
theorem se_keepN (h : SE cl K c.quiet [] (.ls .fz) te e) (l : leS [] ss = true := by rfl) : SE cl K c ss (.ls .fz) te (eKeepN e) := fun B Ai ρ σ H Q R p => by
  obtain ⟨Ai0, x0, R0, _⟩ := R.less (q := c.q) l
  obtain ⟨R00, x00⟩ := R0.clear (q := c.q)
  refine h B _ ρ σ H Q R00 ?_
  unfold eKeepN at p
  cases er : e ρ with
  | stuck => rw [er] at p; exact p
  | ex x ρ1 => rw [er] at p; exact fun cv dx σ' Ai' H' e R k h => p cv dx σ' Ai' H' ((x0.trans x00).trans (Ext.to e)) R k h
  | ok b ρ1 =>
    rw [er] at p
    intro v Ai' H' x R' o
    cases b with
    | lst l =>
      simp only at p
      split at p
      · rename_i hf
        cases o with
        | @ls pp _ xs _ _ Af hp hlen hit hdj hnp hA hlt =>
          have hpp : Ai' σ.length pp := (hA pp).mpr (.inl rfl)
          have hno : H pp = none := by
            cases eh : H pp with
            | none => rfl
            | some u => exact absurd hpp ((x.fro pp u (R'.nb _ _ hpp) (fun _ z => z) eh).1 _)
          have sm : Same H H' := x.qt rfl
          obtain ⟨R2, x2⟩ := R.step (q := c.q) (k := σ.length) (A := fun a => a = pp) (H' := H') (ρ' := ρ) (σ' := σ) (ss' := ss) (fun a z => .inr (by rw [z]; exact hno)) (fun a z => by rw [z, hp]; exact fun z => nomatch z)
            (fun a u _ e => sm a u e) R.len (fun _ _ => rfl) (fun _ => sm) (fun i d e hi => by obtain ⟨v, h1, _⟩ := R.row i d e; exact ⟨v, h1, .inl ⟨e, h1, rfl⟩⟩)
            (fun d e => by rw [← R.len, List.getElem?_eq_none (Nat.le_refl _)] at e; cases e)
          refine p (.ref pp) _ H' x2 R2 (.ls (fun _ _ => False) hp hlen (fun i v d e1 e2 => ?_) (fun _ _ _ z => z.elim) (fun _ z => z) (fun a => ?_) (fun _ _ z => z.elim))
          · have hd : flatB d = true := List.all_eq_true.mp hf d (List.mem_of_getElem? e2)
            exact .fz (flat_own (s0 := .fz) (hit i v d e1 e2).fzAt.1 hd) fun _ z => z
          · rw [setA_same]
            exact ⟨fun z => .inl z, fun z => z.elim id fun ⟨_, z⟩ => z.elim⟩
        | _ => exact p.elim
      · exact p.elim
    | _ => exact p.elim
end
/-! ### sorted(set(numbers)) -/
section
variable {P : Program} {w : World} {A : Around} {E : Value → Shared → Prop} {s : Shared}
/-- the object of a new set -/
abbrev set0 (w : World) : Obj := { cls := .type "set", dict := none, data := .set #[] 0 (.fresh 0 0 (!w.params.followText "set-order")) }
/-- what set(l) leaves, of a list of numbers -/
def SetLeft (w : World) (s : Shared) (ns : List Int) (s' : Shared) : Prop :=
  ∃ (h' : Heap) (tk c : Nat), s' = { s with heap := h', toks := tk } ∧ SetR w h' s.heap.objs.size (fun j => decide (j ∈ ns)) c ∧ c ≤ ns.length ∧ (∀ b o, s.heap.get? b = some o → h'.get? b = some o)
set_option maxHeartbeats 6400000 in
theorem set_of_list {l : Addr} {items : Array Value} (ns : List Int) {Q : Value → Shared → Prop} (hh : A.handled = none) (hl : s.heap.IsList l items) (hit : IntsAre items.toList ns) (hb : ns.length + 1 < scanBound)
    (hQ : ∀ s', SetLeft w s ns s' → Q (.ref s.heap.objs.size) s') : wpAny (model P w) A (call (.type "set") [.ref l]) Q E s := by
  have hn : items.size = ns.length := by
    have := IntsAre.length hit
    rwa [Array.length_toList] at this
  obtain ⟨c0, tl0, hmro⟩ := F.called_set.mro
  have hmade := F.called_set.made
  have hsub := F.called_set.sub
  refine wpAny_call (codeAny_of_tree ?_)
  show wpAny _ _ (callAny (.type "set") _) _ _ _
  refine wpAny_pure ⟨Code.quiet_builtin _ (by decide +kernel), codeAny_builtin F.entry_type_call ?_⟩
  rw [Around.under_plain (weight_type_call_type "set" [.ref l] []) rfl]
  have g1 := F.called_set.notType
  have g2 := F.called_set.canCreate
  have g3 := F.typeCall_set_1 (.ref l)
  repeat (any_goals (first | assumption | wp_step))
  refine codeAny_mono (code_set_led1 (.ref l) (E := E) (Q₁ := fun x s₁ => x = .ref s.heap.objs.size ∧ s₁ = { s with heap := s.heap.push (set0 w) }) ⟨rfl, rfl⟩) fun r s₁ hr => ?_
  cases r with
  | error e => exact hr
  | ok fl => cases fl with
    | ret x =>
      obtain ⟨rfl, rfl⟩ := hr
      have hS : (s.heap.push (set0 w)).get? s.heap.objs.size = some (set0 w) := Heap.get?_push_size _ rfl
      have hT : Shared.TypeIs { s with heap := s.heap.push (set0 w) } (.ref s.heap.objs.size) "set" := ⟨_, hS, rfl⟩
      have g4 := F.called_set.init.lookup
      have g5 := F.called_set.init.bind (.ref s.heap.objs.size)
      repeat (any_goals (first | assumption | wp_step))
      refine codeAny_mono (codeAny_call_builtin (R := wants (fun r s₂ => r = .none ∧ SetLeft w s ns s₂) E) F.called_set.init.plain F.entry_set_init (check_set_init_1 hT ?_)) fun r₂ s₂ h₂ => ?_
      · obtain ⟨ol, hol, hc, nl, hd⟩ := hl
        obtain ⟨oc, od, oda, osl⟩ := ol
        simp only at hc hd
        subst hc
        subst hd
        have hol' : (s.heap.push (set0 w)).get? l = some { cls := .type "list", dict := od, data := .seq items nl, slots := osl } := Heap.get?_push_of_some _ hol
        have g6 := F.sub_list_set
        have g7 := F.sub_list_frozenset
        have g8 : (Value.type "list" == Value.type "dict") = false := by decide
        have hl1 : (s.heap.push (set0 w)).IsList l items := ⟨_, hol', rfl, nl, rfl⟩
        unfold Builtin.«set.__init__» noKeywords Builtin.Frozenset.updateFrom
        generalize hPI : pyIter = PI
        wp_walk
        subst hPI
        refine wpAny_pyIter_list hl1 (wpAny_bind (wpAny_runValue ?_))
        have lt : l < s.heap.objs.size := Heap.lt_size hol
        have sz : (s.heap.push (set0 w)).objs.size = s.heap.objs.size + 1 := Heap.size_push ..
        have n1 : l ≠ (s.heap.push (set0 w)).objs.size := by rw [sz]; exact Nat.ne_of_lt (Nat.lt_succ_of_lt lt)
        have n2 : s.heap.objs.size ∉ [(s.heap.push (set0 w)).objs.size, l] := fun z => by
          rcases List.mem_cons.mp z with z | z
          · rw [sz] at z; exact absurd z (Nat.ne_of_lt (Nat.lt_succ_self _))
          · exact absurd (List.mem_singleton.mp z) (Nat.ne_of_gt lt)
        have hval : ∀ (i : Nat) (v : Value), items[i]? = some v → ∃ k t, ns[i]? = some k ∧ v = .int k t := fun i v hv => by
          have hi : i < ns.length := by rw [← hn]; exact (Array.getElem?_eq_some_iff.mp hv).1
          obtain ⟨t, e⟩ := PyProof.Rows.IntsAre.int_at hit i v (by rw [Array.getElem?_toList]; exact hv)
          exact ⟨ns[i], t, List.getElem?_eq_getElem hi, by rw [e, List.getD_eq_getElem?_getD, List.getElem?_eq_getElem hi]; rfl⟩
        refine set_update_ints ((Walks.list (by simp [hh]) _ l n1 items).toS) s.heap.objs.size n2 ns hn hb hval (items.size - 0) 0 _ (by omega) (Nat.zero_le _)
          ⟨⟨_, Heap.get?_push_size _ rfl, rfl, rfl⟩, hl1.push _⟩ ⟨0, Nat.le_refl 0, setR_new_at (Heap.get?_push_of_some _ hS)⟩ fun s' c' hm hc' hS' => ?_
        obtain ⟨h', g', d', tk', os'⟩ := s'
        have eg : g' = s.gens := hm.gens
        have ed : d' = s.drawn := hm.drawn
        have eo : os' = s.os := hm.os
        subst eg
        subst ed
        subst eo
        refine wpAny_pure ?_
        show wpAny _ _ (ret Value.none) _ _ _
        rw [hn] at hc'
        refine wpAny_pure ⟨rfl, h', tk', c', rfl, hS', hc', fun b o e => hm.heap b o (fun z => ?_) (Heap.get?_push_of_some _ (Heap.get?_push_of_some _ e))⟩
        have b0 : b < s.heap.objs.size := Heap.lt_size e
        rcases List.mem_cons.mp z with z | z
        · exact absurd z (Nat.ne_of_lt b0)
        · have := List.mem_singleton.mp z
          rw [sz] at this
          exact absurd this (Nat.ne_of_lt (Nat.lt_succ_of_lt b0))
      · cases r₂ with
        | error e => exact h₂
        | ok fl₂ => cases fl₂ with
          | ret r =>
            obtain ⟨rfl, h₂⟩ := h₂
            repeat (any_goals (first | assumption | wp_step))
            exact hQ _ h₂
          | _ => exact h₂.elim
    | _ => exact hr.elim
end
section
variable {X : Cx} {tA : TA}
def rSortSet (K : PySem.W.Frag) : List V → Hp → VK → Prop := fun vs H Q => ∃ (l : Addr) (ns : List Int), vs = [V.ref l] ∧ SqL K H l (ns.map V.int) ∧ ns.length < 64 ∧
  ∀ (ys : List Int) (p : Addr), ys.Pairwise (· < ·) → (∀ k, k ∈ ys ↔ k ∈ ns) → H p = none → Q (.ref p) (upd H p (.lst (ys.map V.int)))
theorem pe_sortSetK (K : PySem.W.Frag) {a : Expr} {p p2 q pos : Pos} (hg : Gl X "sorted") (hm : X.mg "sorted" = none) (hg2 : Gl X "set") (hm2 : X.mg "set" = none) (ha : PA X [a] tA) (eK : X.K = K := by rfl) (hc : X.calm = true := by rfl)
    (na : starEach [a] X.env = (false, eval a X.env) :: starEach [] X.env := by rfl) : PE X (.Call (.Name "sorted" p) [.Call (.Name "set" p2) [a] [] q] [] pos) (tOpA (rSortSet K) tA) := by
  subst eK
  refine ⟨fun pins s σ H Q I h => ?_⟩
  refine Call_ (ld_blt I hg hm PyProof.Rows.boot_sorted ?_)
  refine PyProof.Rows.callWith_builtin1 (PyProof.Rows.args_cons ?_ rfl) rfl rfl
  refine Call_ (ld_blt I hg2 hm2 PyProof.Rows.boot_set ?_)
  refine PyProof.Rows.callWith_type1 (thn (ha.run q pins s σ H _ I h) fun us s1 ⟨vs, H1, I1, r1, q1⟩ => ?_) na rfl
  obtain ⟨l, ns, rfl, hq, hl, q1⟩ := q1
  rw [Vals.ref1 r1]
  obtain ⟨its, r, pl, hz⟩ := I1.list hq
  refine set_of_list ns (I1.ok.hd hc) pl.isList (by simpa using r.ints) (by unfold scanBound; omega) fun s' hS => ?_
  obtain ⟨h', tk, c, rfl, R, hcl, hk⟩ := hS
  refine PyProof.Rows.args_nil ?_
  have I2 : Inv X pins σ H1 { s1 with heap := h', toks := tk } := I1.kept fun b o e => hk b o e
  have R : SetR X.w ({ s1 with heap := h', toks := tk } : Shared).heap s1.heap.objs.size (fun j => decide (j ∈ ns)) c := R
  generalize ({ s1 with heap := h', toks := tk } : Shared) = s2 at *
  refine sorted_set R (I2.ok.hd hc) (by omega) fun s3 p3 out c3 ys k3 g3 o3 hp3 hgt hi hs hm3 hlen3 => ?_
  have hlen : (ys.map V.int).length ≤ sizeLine := by rw [List.length_map, hlen3, sizeLine_eq]; omega
  have hn : H1 p3 = none := I2.hok.fresh hp3
  have J : Inv X pins σ (upd H1 p3 (.lst (ys.map V.int))) { s2 with heap := s3.heap, gens := s3.gens, drawn := s3.drawn, toks := s3.toks } :=
    I2.call (ch := []) (Un.laid k3 hp3 hn) (I2.hok.laid k3 hp3 ⟨hlen, out.toList, c3, vals_of_ints hi, hgt⟩) (by rw [g3]; exact I2.bare) (fun _ z => nomatch z)
  have e : s3 = { s2 with heap := s3.heap, gens := s3.gens, drawn := s3.drawn, toks := s3.toks } := by
    cases s3
    cases s2
    cases o3
    rfl
  rw [e]
  exact ⟨.ref p3, _, J, rfl, q1 ys p3 hs (fun k => by rw [hm3 k]; simp) hn⟩
end
def sortSetD : List Dt → Option Dt
  | [x] => match lstI x with | some l => (match intsD l with | some ns => if ns.length < 64 then some (.lst ((sortI ns.eraseDups).map .int)) else none | none => none) | none => none
  | _ => none
theorem dups_mem {l : List Int} {x : Int} : x ∈ l.eraseDups ↔ x ∈ l := by rw [← PySem.W.oss_dups]; exact PySem.W.oss_has
theorem dups_nodup (l : List Int) : l.eraseDups.Nodup := by
  rw [← PySem.W.oss_dups]
  have : ∀ (l ks : List Int), ks.Nodup → (l.foldl PyProof.Rows.step_dedup ks).Nodup := by
    intro l
    induction l with
    | nil => intro ks h; exact h
    | cons a l ih =>
      intro ks h
      refine ih _ ?_
      unfold PyProof.Rows.step_dedup
      split
      · exact h
      · rename_i hc
        rw [List.nodup_append]
        refine ⟨h, by simp, fun x hx y hy z => hc ?_⟩
        rw [List.mem_singleton.mp hy] at z
        exact List.any_eq_true.mpr ⟨x, hx, by simp [z]⟩
  exact this l [] List.nodup_nil
theorem lt_nodup : ∀ {l : List Int}, l.Pairwise (· < ·) → l.Nodup := fun h => h.imp fun h e => by omega
theorem perm_of_mem {a b : List Int} (ha : a.Nodup) (hb : b.Nodup) (h : ∀ k, k ∈ a ↔ k ∈ b) : a.Perm b := (List.perm_ext_iff_of_nodup ha hb).mpr h
section
variable {cl : Str → Option Addr} {K : PySem.W.Frag} {c : Fx} {M H : Hp} {v : V} {d : Dt}
theorem on_sortSet : OpN cl K (.ls .fz) sortSetD (rSortSet K) := fun M H vs ds z Q sm hb e q => by
  unfold sortSetD at e
  split at e
  · split at e
    · rename_i l hl
      split at e
      · rename_i ns hn
        split at e
        · rename_i h64
          cases e
          obtain ⟨v, rfl, h⟩ := hb.one
          obtain ⟨a, xs, rfl, a1, a2⟩ := h.lstsA sm hl
          rw [intsD_at hn] at a2
          rw [a2.ints] at a1
          refine ⟨a, ns, rfl, a1, h64, fun ys p hs hm n => ?_⟩
          have nd := dups_nodup ns
          have pm : ys.Perm (sortI ns.eraseDups) := (perm_of_mem (lt_nodup hs) nd fun k => by rw [hm k, dups_mem]).trans (sortI_perm _).symm
          rw [sorted_one pm (hs.imp fun h => Int.le_of_lt h) (sortI_sorted _)]
          exact q p _ n rfl (NewO.lstA (ats_ints _))
        · cases e
      · cases e
    · cases e
  · cases e
end
/-! ### sorted(d, reverse=True), the keys numbers -/
def rSortRevDK : List V → List V → Hp → VK → Prop := fun vs zs H Q => ∃ (a : Addr) (kvs : List (Key × V)) (ks : List Int), vs = [V.ref a] ∧ zs = [.bl true] ∧ Rd H a (.dK kvs) ∧ kvs.map (·.1) = ks.map Sum.inl ∧
  ∀ (ys : List Int) (p : Addr), ys.Perm ks → ys.Pairwise (· ≥ ·) → H p = none → Q (.ref p) (upd H p (.lst (ys.map V.int)))
theorem cr_sortedRevDK {X : Cx} (hcalm : X.calm = true := by rfl) : CallRK X (.builtin "sorted") [Str.ofString "reverse"] rSortRevDK := by
  intro pins s σ H xs zs us ws Q I r rz h
  obtain ⟨a, kvs, ks, rfl, rfl, hd, hks, q⟩ := h
  obtain rfl := Vals.ref1 r
  obtain ⟨w1, rfl, e1⟩ := vals1 rz
  obtain rfl : w1 = Value.bool true := e1
  obtain ⟨z, lo, vs, rel, dd⟩ := dk_rd I.hok hd
  obtain ⟨ep, hat⟩ := dd.dictAt
  have hkeys : vs.map (·.1) = ks.map Sum.inl := rel.keys.symm.trans hks
  have hl : vs.length = ks.length := by
    have e := congrArg List.length hkeys
    rwa [List.length_map, List.length_map] at e
  have hz : vs.length ≤ sizeLine := by
    have e := congrArg List.length rel.keys
    rw [List.length_map, List.length_map] at e
    omega
  refine PyProof.Rows.call_function_entry_kw PyProof.Rows.kind_sorted PyProof.Rows.plain_sorted PyProof.Rows.entry_sorted (PyProof.Rows.args_sorted_rev _ _) ?_
  unfold Builtin.«sorted»
  refine wpAny_bind (m := checkCount "sorted" 1 1 _) (wpAny_pure ?_)
  refine wpAny_bind (PySem.W.kdu_collect (A := X.A.in1) (PySem.W.kdl_dict (knd := mixKind X.prog X.w) (kvs := vs) (ep := ep) lo) (I.ok.hd hcalm) hat hz fun h' tk acc hk hacc => ?_)
  have hal : acc.toList.length = ks.length := by rw [Array.length_toList, hacc.1, hl]
  have hS : IntsAre acc.toList ks := ints_each hal fun j v e => by
    obtain ⟨k, x, e1, e2⟩ := hacc.2 j v (by rw [← Array.getElem?_toList]; exact e)
    have e3 : (vs.map (·.1))[j]? = some k := by rw [List.getElem?_map, e1]; rfl
    rw [hkeys, List.getElem?_map] at e3
    cases e4 : ks[j]? with
    | none => rw [e4] at e3; cases e3
    | some y =>
      rw [e4] at e3
      obtain rfl : Sum.inl y = k := Option.some.inj e3
      rcases keyIs_shape (show keyIs (Sum.inl y) v = true from e2) with ⟨i, t, ek, ev⟩ | ⟨w2, t, ek, ev⟩
      · cases ek
        exact ⟨y, t, rfl, ev⟩
      · cases ek
  have I1 : Inv X pins σ H { s with heap := h', toks := tk } := I.kept hk
  have hal2 : acc.toList.length ≤ sizeLine := by rw [hal]; omega
  refine wpAny_bind (wpAny_newList ?_ hal2)
  have hoL : (h'.push (seqObj "list" acc.toList.toArray 0)).get? h'.objs.size = some (seqObj "list" acc.toList.toArray 0) := Heap.get?_push_size _ rfl
  show wpAny _ _ _ _ _ { s with heap := h'.push (seqObj "list" acc.toList.toArray 0), toks := tk }
  refine wpAny_bind (wpAny_holding (PyProof.Rows.wpAny_call_entry_kw PyProof.Rows.slot_list_sort ⟨_, hoL, rfl⟩ PyProof.Rows.entry_list_sort ?_ (PyProof.Rows.args_list_sort_rev _ _)))
  refine SrtR.list_sort_ordR (s := { s with heap := h'.push (seqObj "list" acc.toList.toArray 0), toks := tk }) (b := true) SrtO.swo_int hoL hal2 (fun h2 => SrtO.ints_sortable hS h2) fun out h1 h2 => ⟨_, rfl, ?_⟩
  obtain ⟨ys, g1, g2, g3⟩ := SrtR.ints_outR (b := true) hS h1 h2
  obtain ⟨e', he'⟩ := PyProof.Rows.sortedHeap_at (vs := acc.toList) (out := out.toArray.reverse) hoL
  have hlen : (ys.map V.int).length ≤ sizeLine := by rw [List.length_map, g2.length_eq]; omega
  refine wpAny_pure ⟨_, rfl, .ref h'.objs.size, upd H h'.objs.size (.lst (ys.map V.int)), I1.laid (t' := tk) (fun b u e => ?_) (Nat.le_refl _)
    (show ObjOk X.prog X.w _ _ _ (.lst (ys.map V.int)) from ⟨hlen, _, e', vals_of_ints g1, by first | exact he' | (rw [Array.toArray_toList] at he' ⊢; exact he')⟩), rfl, q ys _ g2 g3 (I1.hok.fresh (Nat.le_refl _))⟩
  have hb : b < h'.objs.size := Heap.lt_size e
  rw [PyProof.Rows.sortedHeap_old (Nat.ne_of_lt hb) (by rw [size_push']; exact Nat.lt_succ_of_lt hb)]
  exact Heap.get?_push_of_some _ e
abbrev rSRD : List V → Hp → VK → Prop := fun vs H Q => rSortRevDK vs [.bl true] H Q
section
variable {X : Cx} {x : Str} {p pos : Pos} {e : Expr} {es : List Expr} {tA : TA} {kws : List Keyword}
theorem pe_sortRevD (hg : Gl X x) (hm : X.mg x = none) (hv : bootBuiltins x = some (.builtin "sorted")) (ha : PA X (e :: es) tA) (hk : PK X kws (tCons (tC (.bl true)) tNil)) (hc : X.calm = true := by rfl) (hn : x ≠ "__name__" := by decide) (hdb : (x == ("__debug__" : Str)) = false := by decide)
    (he : backTo pos (starEach (e :: es) X.env) = (false, eval e X.env) :: backTo pos (starEach es X.env) := by rfl) (hpl : (backTo pos (starEach (e :: es) X.env)).any (·.1) = false := by rfl)
    (hall : (backToKw pos (keywordEach kws X.env)).all (·.1.isSome) = true := by rfl) (hnone : (backToKw pos (keywordEach kws X.env)).any (·.1.isNone) = false := by rfl) (hks : (backToKw pos (keywordEach kws X.env)).filterMap (·.1) = [Str.ofString "reverse"] := by rfl) :
    PE X (.Call (.Name x p) (e :: es) kws pos) (tOpA rSRD tA) :=
  pe_callBK (r := rSortRevDK) (tk := tCons (tC (.bl true)) tNil) (cr_sortedRevDK hc) hg hm hv ha hk hn hdb he hpl hall hnone hks
end
def sortedRD : List Dt → Option Dt
  | [x] => match dicI x with | some l => (match intsD (l.map (·.1)) with | some ns => some (.lst ((sortI ns).reverse.map .int)) | none => none) | none => none
  | _ => none
theorem rev_one {l m : List Int} (h : l.Perm m) (a : l.Pairwise (· ≥ ·)) (b : m.Pairwise (· ≤ ·)) : l = m.reverse := by
  have e : l.reverse = m := sorted_one ((List.reverse_perm l).trans h) (by rw [List.pairwise_reverse]; exact a) b
  rw [← e, List.reverse_reverse]
section
variable {cl : Str → Option Addr} {K : PySem.W.Frag} {M H : Hp} {v : V}
theorem on_sortedRD : OpN cl K (.ls .fz) sortedRD rSRD := fun M H vs ds z Q sm hb e q => by
  unfold sortedRD at e
  split at e
  · split at e
    · rename_i l hll
      split at e
      · rename_i ns hn
        cases e
        obtain ⟨v, rfl, h⟩ := hb.one
        obtain ⟨a, xs, rfl, a1, a2⟩ := h.dict sm hll
        have hn := intsD_at hn
        refine ⟨a, xs, ns, rfl, rfl, a1, ?_, fun ys p hp hs n => ?_⟩
        · apply List.ext_getElem?
          intro i
          rw [List.getElem?_map, List.getElem?_map]
          rcases Nat.lt_or_ge i xs.length with hi | hi
          · have e1 : xs[i]? = some (xs[i].1, xs[i].2) := List.getElem?_eq_getElem hi
            have hi2 : i < l.length := by rw [← a2.1]; exact hi
            have e2 : l[i]? = some (l[i].1, l[i].2) := List.getElem?_eq_getElem hi2
            have e3 : (l.map (·.1))[i]? = some l[i].1 := by rw [List.getElem?_map, e2]; rfl
            have e4 := a2.2.1 i _ _ _ _ e1 e2
            rw [hn, List.getElem?_map] at e3
            rw [e1]
            cases en : ns[i]? with
            | none => rw [en] at e3; cases e3
            | some j =>
              rw [en] at e3
              have e5 : Dt.int j = l[i].1 := Option.some.inj e3
              rw [← e5] at e4
              cases hk : xs[i].1 with
              | inl m => rw [hk] at e4; simp [kD] at e4; subst e4; simp [hk]
              | inr m => rw [hk] at e4; simp [kD] at e4
          · have : ns.length = l.length := by have := congrArg List.length hn; simpa using this.symm
            rw [List.getElem?_eq_none hi, List.getElem?_eq_none (by rw [this, ← a2.1]; exact hi)]
            rfl
        · rw [rev_one (hp.trans (sortI_perm ns).symm) hs (sortI_sorted ns)]
          exact q p _ n rfl (NewO.lstA (ats_ints _))
      · cases e
    · cases e
  · cases e
end
/-! ### len(d), the keys numbers and texts -/
def rLenDK : List V → Hp → VK → Prop := fun vs H Q => ∃ (a : Addr) (kvs : List (Key × V)), vs = [V.ref a] ∧ Rd H a (.dK kvs) ∧ Q (.int ((kvs.length : Nat) : Int)) H
theorem cr_lenDK {X : Cx} : CallR X (.builtin "len") rLenDK := by
  intro pins s σ H vs us Q I r h
  obtain ⟨a, kvs, rfl, hd, q⟩ := h
  obtain rfl := Vals.ref1 r
  exact d_len I hd fun t s' I' => ⟨.int ((kvs.length : Nat) : Int), H, I', ⟨t, rfl⟩, q⟩
def lenDD : List Dt → Option Dt
  | [x] => (dicI x).map fun l => .int ((l.length : Nat) : Int)
  | _ => none
section
variable {cl : Str → Option Addr} {K : PySem.W.Frag}
theorem os_lenDD : OpS cl K lenDD rLenDK := fun M H vs ds z Q sm hb e q => by
  unfold lenDD at e
  split at e
  · rename_i x
    cases hl : dicI x with
    | none => rw [hl] at e; cases e
    | some l =>
      rw [hl] at e
      cases e
      obtain ⟨v, rfl, h⟩ := hb.one
      obtain ⟨a, xs, rfl, a1, a2⟩ := h.dict sm hl
      exact ⟨a, xs, rfl, a1, by rw [a2.1]; exact q _ _ (.old (.int _))⟩
  · cases e
end
/-! ### the words, step by step (w_..: rules for simp) -/
theorem w_seq {a b : SM} {ρ : Env} : sSeq a b ρ = (a ρ).then b := rfl
theorem w_skip {ρ : Env} : sSkip ρ = .nx ρ := rfl
theorem w_th1 {ρ : Env} {f : SM} : (Sr.nx ρ).then f = f ρ := rfl
theorem w_th2 {d : Dt} {ρ : Env} {f : SM} : (Sr.rt d ρ).then f = .rt d ρ := rfl
theorem w_th3 {ρ : Env} {f : SM} : (Sr.bk ρ).then f = .bk ρ := rfl
theorem w_th4 {ρ : Env} {f : SM} : (Sr.ct ρ).then f = .ct ρ := rfl
theorem w_th5 {e : Ex} {ρ : Env} {f : SM} : (Sr.ex e ρ).then f = .ex e ρ := rfl
theorem x_thi {p : Prop} [Decidable p] {a b : Sr} {f : SM} : (if p then a else b).then f = if p then a.then f else b.then f := by split <;> rfl
theorem w_set {i : Nat} {e : EM Dt} {ρ : Env} : sSet i e ρ = (e ρ).go fun d ρ1 => .nx (ρ1.set i (some d)) := rfl
theorem w_if {c : EM Bool} {a b : SM} {ρ : Env} : sIf c a b ρ = (c ρ).go fun k ρ1 => if k = true then a ρ1 else b ρ1 := rfl
theorem w_ret {e : EM Dt} {ρ : Env} : sRet e ρ = (e ρ).go fun d ρ1 => .rt d ρ1 := rfl
theorem w_do {e : EM Dt} {ρ : Env} : sDo e ρ = (e ρ).go fun _ ρ1 => .nx ρ1 := rfl
theorem w_brk {ρ : Env} : sBrk ρ = .bk ρ := rfl
theorem w_cont {ρ : Env} : sCont ρ = .ct ρ := rfl
theorem w_raise {c : Str} {ρ : Env} : sRaise c ρ = .ex ⟨c, []⟩ ρ := rfl
theorem w_go1 {α : Type} {a : α} {ρ : Env} {f : α → Env → Sr} : (Er.ok a ρ).go f = f a ρ := rfl
theorem w_go2 {α : Type} {e : Ex} {ρ : Env} {f : α → Env → Sr} : (Er.ex e ρ).go f = .ex e ρ := rfl
theorem w_goi {α : Type} {p : Prop} [Decidable p] {a b : Er α} {f : α → Env → Sr} : (if p then a else b).go f = if p then a.go f else b.go f := by split <;> rfl
theorem w_bd1 {α β : Type} {a : α} {ρ : Env} {f : α → Env → Er β} : (Er.ok a ρ).bind f = f a ρ := rfl
theorem w_bd2 {α β : Type} {e : Ex} {ρ : Env} {f : α → Env → Er β} : (Er.ex e ρ : Er α).bind f = .ex e ρ := rfl
theorem w_bdi {α β : Type} {p : Prop} [Decidable p] {a b : Er α} {f : α → Env → Er β} : (if p then a else b).bind f = if p then a.bind f else b.bind f := by split <;> rfl
theorem w_tn1 {ρ : Env} {f : SM} : (Sr.nx ρ).turn f = f ρ := rfl
theorem w_tn2 {d : Dt} {ρ : Env} {f : SM} : (Sr.rt d ρ).turn f = .rt d ρ := rfl
theorem w_tn3 {ρ : Env} {f : SM} : (Sr.bk ρ).turn f = .nx ρ := rfl
theorem w_tn4 {ρ : Env} {f : SM} : (Sr.ct ρ).turn f = f ρ := rfl
theorem w_tn5 {e : Ex} {ρ : Env} {f : SM} : (Sr.ex e ρ).turn f = .ex e ρ := rfl
theorem w_gv0 {a : Option Dt} {l : Env} : gv (a :: l) 0 = a := by cases a <;> rfl
theorem w_gvs {a : Option Dt} {l : Env} {n : Nat} : gv (a :: l) (n + 1) = gv l n := rfl
theorem w_gvn {n : Nat} : gv [] n = none := rfl
theorem w_var {i : Nat} {ρ : Env} : eVar i ρ = match gv ρ i with | some d => .ok d ρ | none => .stuck := rfl
theorem w_c {d : Dt} {ρ : Env} : eC d ρ = .ok d ρ := rfl
theorem w_ag0 {ρ : Env} : eArgs [] ρ = .ok [] ρ := rfl
theorem w_ag1 {e : EM Dt} {r : List AE} {ρ : Env} : eArgs (.val e :: r) ρ = (e ρ).bind fun d ρ1 => (eArgs r ρ1).bind fun ds ρ2 => .ok (d :: ds) ρ2 := rfl
theorem w_ag2 {i : Nat} {r : List AE} {ρ : Env} : eArgs (.own i :: r) ρ = if (gv ρ i).isSome then (eArgs r ρ).bind fun ds ρ2 => (match gv ρ2 i with | some d => .ok (d :: ds) ρ2 | none => .stuck) else .stuck := rfl
theorem w_op {f : List Dt → Option Dt} {as : List AE} {ρ : Env} : eOp f as ρ = (eArgs as ρ).bind fun ds ρ1 => match f ds with | some z => .ok z ρ1 | none => .stuck := rfl
theorem w_eif {c : EM Bool} {a b : EM Dt} {ρ : Env} : eIf c a b ρ = (c ρ).bind fun k ρ1 => if k = true then a ρ1 else b ρ1 := rfl
theorem w_cof {e : EM Dt} {ρ : Env} : cOf e ρ = (e ρ).bind fun d ρ1 => match d with | .bl b => .ok b ρ1 | _ => .stuck := rfl
theorem w_eof {c : EM Bool} {ρ : Env} : eOf c ρ = (c ρ).bind fun b ρ1 => .ok (.bl b) ρ1 := rfl
theorem w_and {a b : EM Bool} {ρ : Env} : cAnd a b ρ = (a ρ).bind fun k ρ1 => if k = true then b ρ1 else .ok false ρ1 := rfl
theorem w_or {a b : EM Bool} {ρ : Env} : cOr a b ρ = (a ρ).bind fun k ρ1 => if k = true then .ok true ρ1 else b ρ1 := rfl
theorem w_not {a : EM Bool} {ρ : Env} : cNot a ρ = (a ρ).bind fun k ρ1 => .ok (!k) ρ1 := rfl
theorem w_tru {a : List AE} {ρ : Env} : cTru a ρ = (eArgs a ρ).bind fun ds ρ1 => match ds with | [d] => (match truD d with | some b => .ok b ρ1 | none => .stuck) | _ => .stuck := rfl
theorem w_andv {a b : EM Dt} {ρ : Env} : eAndV a b ρ = (a ρ).bind fun x ρ1 => match x with | .bl k => if k = true then b ρ1 else .ok (.bl false) ρ1 | _ => .stuck := rfl
theorem w_orv {a b : EM Dt} {ρ : Env} : eOrV a b ρ = (a ρ).bind fun x ρ1 => match x with | .bl k => if k = true then .ok (.bl true) ρ1 else b ρ1 | _ => .stuck := rfl
theorem w_for {it : EM (List Dt)} {g : Dt → Env → Option Env} {body : SM} {ρ : Env} : sFor it g body ρ = (it ρ).go fun xs ρ1 => sLoop g body xs ρ1 := rfl
theorem w_iop {f : List Dt → Option (List Dt)} {as : List AE} {ρ : Env} : iOpA f as ρ = (eArgs as ρ).bind fun ds ρ1 => match f ds with | some l => .ok l ρ1 | none => .stuck := rfl
theorem w_iseq {e : EM Dt} {ρ : Env} : iSeqD e ρ = (e ρ).bind fun d ρ1 => match seqJ d with | some l => .ok l ρ1 | none => .stuck := rfl
theorem w_call {f : List Dt → Fq} {as : List AE} {dds : List Dt} {ρ : Env} : eCall f as dds ρ = (eArgs as ρ).bind fun ds ρ1 => match f (ds ++ dds) with | .ok d outs => .ok d (putO as outs ρ1) | .ex e outs => .ex e (putO as outs ρ1) | .stuck => .stuck := rfl
theorem w_po0 {outs : Env} {ρ : Env} : putO [] outs ρ = ρ := by cases outs <;> rfl
theorem w_po1 {i : Nat} {as : List AE} {o : Option Dt} {outs ρ : Env} : putO (.own i :: as) (o :: outs) ρ = putO as outs (ρ.set i o) := rfl
theorem w_po2 {e : EM Dt} {as : List AE} {outs ρ : Env} : putO (.val e :: as) outs ρ = putO as outs.tail ρ := rfl
theorem w_put {i : Nat} {k e : EM Dt} {ρ : Env} : sPut i k e ρ = (e ρ).go fun d ρ1 => if (gv ρ1 i).isSome then (k ρ1).go fun z ρ2 => (match gv ρ2 i, z with
  | some (.lst l), .int n => (match ixN l.length n with | some j => .nx (ρ2.set i (some (.lst (l.set j d)))) | none => .stuck)
  | _, _ => .stuck) else .stuck := rfl
theorem w_mut {i : Nat} {f : List Dt → List Dt → Option (List Dt × Dt)} {as : List AE} {ρ : Env} : eMut i f as ρ = match gv ρ i with
  | some (.lst _) => (eArgs as ρ).bind fun ds ρ1 => (match gv ρ1 i with
    | some (.lst l) => (match f l ds with
      | some (l', z) => .ok z (ρ1.set i (some (.lst l')))
      | none => .stuck)
    | _ => .stuck)
  | _ => .stuck := rfl
def lim {α : Type} (n : Nat) (a : Er α) : Er α := if n ≤ 16777216 then a else .stuck
theorem w_lim {α : Type} {n : Nat} {a : Er α} (h : n ≤ 16777216) : lim n a = a := if_pos h
theorem w_comp {it : EM (List Dt)} {vs : List Nat} {g : Dt → Env → Option Env} {c : EM Bool} {e : EM Dt} {ρ : Env} : eComp it vs g c e ρ = (it ρ).bind fun xs ρ1 => lim xs.length ((compL vs g c e xs ρ1).bind fun ds ρ2 => .ok (.lst ds) ρ2) := rfl
theorem w_aug {i : Nat} {f : List Dt → Option Dt} {e : EM Dt} {ρ : Env} : sAug i f e ρ = match gv ρ i with
  | some x => (e ρ).go fun y ρ1 => (match f [x, y] with | some z => .nx (ρ1.set i (some z)) | none => .stuck)
  | none => .stuck := rfl
theorem w_slv {f : Dt → Option Int → Option Int → Option Dt} {e : EM Dt} {lo hi : Option (EM Dt)} {ρ : Env} : eSl f (.val e) lo hi ρ = (e ρ).bind fun d ρ1 => (partI lo ρ1).bind fun i ρ2 => (partI hi ρ2).bind fun j ρ3 => match f d i j with | some z => .ok z ρ3 | none => .stuck := rfl
theorem w_pt0 {ρ : Env} : partI none ρ = .ok none ρ := rfl
theorem w_pt1 {e : EM Dt} {ρ : Env} : partI (some e) ρ = (e ρ).bind fun d ρ1 => match d with | .int i => .ok (some i) ρ1 | _ => .stuck := rfl
theorem w_yes {ρ : Env} : cYes ρ = .ok true ρ := rfl
theorem w_gvar {i : Nat} {d : Dt} {ρ : Env} : gVar i d ρ = some (ρ.set i (some d)) := rfl
theorem w_try {b : SM} {hs : List (Str × (Ex → SM))} {ρ : Env} : sTry b hs ρ = match b ρ with
  | .ex e ρ1 => match hs.find? (fun h => subX e.c h.1) with
    | some h => h.2 e ρ1
    | none => .ex e ρ1
  | r => r := rfl
theorem w_as {i : Nat} {s : SM} {ρ : Env} : sAs i s ρ = if i < ρ.length then (s (ρ.set i none)).rid i else .stuck := rfl
theorem w_su {s : SM} {ρ : Env} : sSu s ρ = match s ρ with | .ex _ _ => .stuck | r => r := rfl
theorem w_isx {errs : List Str} {x : Ex} {cn : Str} {ρ : Env} : eIsX errs x cn ρ = if errs.contains x.c && x.fs.isEmpty then .ok (.bl (subX x.c cn)) ρ else .stuck := rfl
theorem w_rid1 {i : Nat} {ρ : Env} : (Sr.nx ρ).rid i = .nx (ρ.set i none) := rfl
theorem w_rid2 {i : Nat} {d : Dt} {ρ : Env} : (Sr.rt d ρ).rid i = .rt d (ρ.set i none) := rfl
theorem w_run {g : Sg} {body : SM} {ds : List Dt} : runF g body ds = if ds.length = g.ar then endF g (body (ds.map some ++ List.replicate (g.n - g.ar) none)) else .stuck := rfl
theorem w_end1 {g : Sg} {d : Dt} {ρ : Env} : endF g (.rt d ρ) = .ok d (outsOf g.po g.k ρ) := rfl
theorem w_end2 {g : Sg} {e : Ex} {ρ : Env} : endF g (.ex e ρ) = .ex e (outsOf g.px g.k ρ) := rfl
theorem w_end3 {g : Sg} {ρ : Env} : endF g (.nx ρ) = match g.rs with | .fz => .ok .non (outsOf g.po g.k ρ) | _ => .stuck := rfl
theorem x_endi {p : Prop} [Decidable p] {g : Sg} {a b : Sr} : endF g (if p then a else b) = if p then endF g a else endF g b := by split <;> rfl
theorem w_outs0 {ps : Ss} {ρ : Env} : outsOf ps 0 ρ = [] := rfl
theorem w_outs1 {s : Sh} {ρ : Env} : outsOf [(0, .ls s)] 1 ρ = [gv ρ 0] := rfl
/-! ### data -/
theorem w_mul {i j : Int} (h : (-18446744073709551616 < i ∧ i < 18446744073709551616) ∨ (-18446744073709551616 < j ∧ j < 18446744073709551616)) : mulD [.int i, .int j] = some (.int (i * j)) := if_pos (.inl h)
theorem w_rep {l : List Dt} {k : Int} (h : k < 16777217) (h2 : l.length * k.toNat ≤ 16777216) (h1 : -16777217 < k) : mulD [.lst l, .int k] = some (.lst (List.replicate k.toNat l).flatten) := by
  refine if_pos ⟨?_, h2⟩
  unfold inR; simp; omega
theorem w_div {i j : Int} (h : 0 < j ∧ j < 4611686018427387904) : divD [.int i, .int j] = some (.int (i / j)) := if_pos (.inr (wide_div (b := 62) h.1 (by have := h.2; omega) (by decide) (by decide)))
theorem w_mod {i j : Int} (h : 0 < j) : modD [.int i, .int j] = some (.int (i % j)) := if_pos h
theorem w_shl {i j : Int} (h : 0 ≤ j ∧ j ≤ 1000000 ∧ -18446744073709551616 < i ∧ i < 18446744073709551616) : shlD [.int i, .int j] = some (.int (i * 2 ^ j.toNat)) := by
  refine if_pos ⟨h.1, h.2.1, ?_⟩
  obtain ⟨_, _, _, _⟩ := h
  show i.natAbs < 18446744073709551616
  omega
theorem w_shr {i j : Int} (h : 0 ≤ j) : shrD [.int i, .int j] = some (.int (i / 2 ^ j.toNat)) := if_pos h
theorem w_lst {l : List Dt} (h : l.length ≤ 16777216) : lstD l = some (.lst l) := if_pos h
theorem w_tup {l : List Dt} (h : l.length ≤ 16777216) : tupD l = some (.tup l) := if_pos h
theorem w_cat {l m : List Dt} (h : l.length + m.length ≤ 16777216) : addD [.lst l, .lst m] = some (.lst (l ++ m)) := if_pos h
theorem w_catS {i j : Str} (h : i.length + j.length ≤ 16777216) : addD [.str i, .str j] = some (.str (i ++ j)) := if_pos h
theorem w_catD {l m : List Dt} (h : l.length + m.length ≤ 16777216) : catD [.lst l, .lst m] = some (.lst (l ++ m)) := if_pos h
theorem w_repD {l : List Dt} {k : Int} (h : k < 16777217) (h2 : l.length * k.toNat ≤ 16777216) (h1 : -16777217 < k) : repD [.lst l, .int k] = some (.lst (List.replicate k.toNat l).flatten) := by
  refine if_pos ⟨?_, h2⟩
  unfold inR; simp; omega
theorem w_rg1 {n : Int} (h : -4611686018427387904 ≤ n ∧ n < 4611686018427387904) : rng1D [.int n] = some (rngL 0 n.toNat) := by
  refine if_pos ?_
  unfold inR; simp; omega
theorem w_rg2 {a b : Int} (h : -4611686018427387904 ≤ a ∧ a < 4611686018427387904 ∧ -4611686018427387904 ≤ b ∧ b < 4611686018427387904) : rng2D [.int a, .int b] = some (rngL a (b - a).toNat) := by
  refine if_pos ?_
  unfold inR; simp; omega
theorem w_app {l : List Dt} {d : Dt} (h : l.length < 16777216) : appD l [d] = some (l ++ [d], .non) := if_pos h
theorem w_ext {l m : List Dt} (h : l.length + m.length ≤ 16777216) : extD l [.lst m] = some (l ++ m, .non) := if_pos h
theorem w_ins {l : List Dt} {i : Int} {d : Dt} (h0 : 0 ≤ i ∧ i < 4611686018427387904 ∧ l.length < 16777216) : insD l [.int i, d] = some (l.take i.toNat ++ [d] ++ l.drop i.toNat, .non) := if_pos h0
theorem w_toN {i : Int} {n : Nat} (h0 : 0 ≤ i) (h : i < n) : ixN n i = some i.toNat := by unfold ixN; rw [if_pos h0, if_pos h]
theorem w_eqI {i j : Int} : eqB (.int i) (.int j) = some (decide (i = j)) := rfl
theorem w_eqS {i j : Str} : eqB (.str i) (.str j) = some (decide (i = j)) := rfl
theorem w_eqL {i j : Bool} : eqB (.bl i) (.bl j) = some (decide (i = j)) := rfl
/-- an index, whole lists of numbers -/
theorem atI_nat' {α : Type} {xs : List α} {i : Int} {j : Nat} (e : i = j) {v : α} (h : xs[j]? = some v) : atI xs i = some v := by subst e; exact atI_nat h
theorem atI_int {l : List Int} {j : Nat} (h : j < l.length) : atI (l.map Dt.int) (j : Int) = some (.int l[j]) := atI_nat (by rw [List.getElem?_map, List.getElem?_eq_getElem h]; rfl)
theorem w_ix0 {d : Dt} {l : List Dt} : atI (d :: l) 0 = some d := atI_nat (j := 0) rfl
theorem w_ix1 {d0 d : Dt} {l : List Dt} : atI (d0 :: d :: l) 1 = some d := atI_nat (j := 1) rfl
theorem w_ix2 {d0 d1 d : Dt} {l : List Dt} : atI (d0 :: d1 :: d :: l) 2 = some d := atI_nat (j := 2) rfl
theorem w_ix3 {d0 d1 d2 d : Dt} {l : List Dt} : atI (d0 :: d1 :: d2 :: d :: l) 3 = some d := atI_nat (j := 3) rfl
theorem w_ix4 {d0 d1 d2 d3 d : Dt} {l : List Dt} : atI (d0 :: d1 :: d2 :: d3 :: d :: l) 4 = some d := atI_nat (j := 4) rfl
theorem w_ix5 {d0 d1 d2 d3 d4 d : Dt} {l : List Dt} : atI (d0 :: d1 :: d2 :: d3 :: d4 :: d :: l) 5 = some d := atI_nat (j := 5) rfl
theorem w_iN0 {n : Nat} : ixN (n + 1) 0 = some 0 := w_toN (by omega) (by omega)
theorem w_iN1 {n : Nat} : ixN (n + 1 + 1) 1 = some 1 := w_toN (by omega) (by omega)
theorem w_iN2 {n : Nat} : ixN (n + 1 + 1 + 1) 2 = some 2 := w_toN (by omega) (by omega)
theorem w_iN3 {n : Nat} : ixN (n + 1 + 1 + 1 + 1) 3 = some 3 := w_toN (by omega) (by omega)
theorem w_iN4 {n : Nat} : ixN (n + 1 + 1 + 1 + 1 + 1) 4 = some 4 := w_toN (by omega) (by omega)
theorem rngL_map (a : Int) (n : Nat) : rngL a n = ((List.range n).map fun k : Nat => a + (k : Int)).map Dt.int := by
  induction n generalizing a with
  | zero => rfl
  | succ n ih => rw [rngL, ih, List.range_succ_eq_map]; simp; exact fun k _ => by omega
theorem rngL_length (a : Int) (n : Nat) : (rngL a n).length = n := by rw [rngL_map]; simp
theorem w_rgl {a : Int} {n : Nat} : (rngL a n).length = n := rngL_length a n
theorem rngL_mem {a : Int} {n : Nat} {d : Dt} (h : d ∈ rngL a n) : ∃ k : Nat, k < n ∧ d = .int (a + k) := by
  rw [rngL_map] at h; simp at h; obtain ⟨k, h1, rfl⟩ := h; exact ⟨k, h1, rfl⟩
theorem intsD_map (l : List Int) : intsD (l.map .int) = some l := by
  induction l with
  | nil => rfl
  | cons a l ih => show (intsD (l.map .int)).map _ = _; rw [ih]; rfl
/-! ### loops -/
/-- a loop, with what holds before each item -/
theorem loop_wp {g : Dt → Env → Option Env} {body : SM} (I : List Dt → Env → Prop) (Q : Sr → Prop) {xs : List Dt} {ρ : Env} (h0 : I xs ρ)
    (step : ∀ x r ρ, I (x :: r) ρ → ∃ ρ1, g x ρ = some ρ1 ∧ match body ρ1 with | .nx ρ2 => I r ρ2 | .ct ρ2 => I r ρ2 | .bk ρ2 => Q (.nx ρ2) | y => Q y)
    (done : ∀ ρ, I [] ρ → Q (.nx ρ)) : Q (sLoop g body xs ρ) := by
  induction xs generalizing ρ with
  | nil => exact done ρ h0
  | cons x r ih =>
    obtain ⟨ρ1, e, h⟩ := step x r ρ h0
    simp only [sLoop, e]
    cases hb : body ρ1 with
    | nx ρ2 => rw [hb] at h; exact ih h
    | ct ρ2 => rw [hb] at h; exact ih h
    | bk ρ2 => rw [hb] at h; exact h
    | rt d ρ2 => rw [hb] at h; exact h
    | ex d ρ2 => rw [hb] at h; exact h
    | stuck => rw [hb] at h; exact h
/-- a loop that ends by itself -/
theorem loop_nx {g : Dt → Env → Option Env} {body : SM} (I : List Dt → Env → Prop) {xs : List Dt} {ρ : Env} (h0 : I xs ρ)
    (step : ∀ x r ρ, I (x :: r) ρ → ∃ ρ1 ρ2, g x ρ = some ρ1 ∧ (body ρ1 = .nx ρ2 ∨ body ρ1 = .ct ρ2) ∧ I r ρ2) : ∃ ρ', sLoop g body xs ρ = .nx ρ' ∧ I [] ρ' := by
  refine loop_wp I (fun r => ∃ ρ', r = .nx ρ' ∧ I [] ρ') h0 (fun x r ρ h => ?_) fun ρ h => ⟨ρ, rfl, h⟩
  obtain ⟨ρ1, ρ2, e, hb, h⟩ := step x r ρ h
  refine ⟨ρ1, e, ?_⟩
  rcases hb with hb | hb <;> rw [hb] <;> exact h
/-- a loop as a fold -/
theorem loop_fold {α β : Type} {g : Dt → Env → Option Env} {body : SM} (E : α → Option Dt → Env) (c : β → Dt) (f : α → β → α)
    (step : ∀ a o b, ∃ ρ1, g (c b) (E a o) = some ρ1 ∧ body ρ1 = .nx (E (f a b) (some (c b)))) (l : List β) (a : α) (o : Option Dt) :
    ∃ o', sLoop g body (l.map c) (E a o) = .nx (E (l.foldl f a) o') := by
  induction l generalizing a o with
  | nil => exact ⟨o, rfl⟩
  | cons b r ih =>
    obtain ⟨ρ1, e, h⟩ := step a o b
    obtain ⟨o', h'⟩ := ih (f a b) (some (c b))
    refine ⟨o', ?_⟩
    simp only [List.map_cons, sLoop, e, h, Sr.turn]
    exact h'
/-! ### comprehensions -/
theorem gv_eq {ρ : Env} {i : Nat} (h : i < ρ.length) : gv ρ i = ρ[i] := by
  unfold gv; rw [List.getElem?_eq_getElem h]; rfl
theorem set_gv {ρ : Env} {i : Nat} (h : i < ρ.length) : ρ.set i (gv ρ i) = ρ := by
  rw [gv_eq h]; exact List.set_getElem_self h
/-- each item by itself; the names stand as before -/
theorem comp_filter {i : Nat} {c : EM Bool} {e : EM Dt} (b : Dt → Bool) (f : Dt → Dt) {ρ : Env} (hi : i < ρ.length) (xs : List Dt) (h1 : ∀ x ∈ xs, c (ρ.set i (some x)) = .ok (b x) (ρ.set i (some x)))
    (h2 : ∀ x ∈ xs, b x = true → e (ρ.set i (some x)) = .ok (f x) (ρ.set i (some x))) : compL [i] (gVar i) c e xs ρ = .ok ((xs.filter b).map f) ρ := by
  induction xs with
  | nil => rfl
  | cons x r ih =>
    have ih := ih (fun y hy => h1 y (.tail _ hy)) fun y hy => h2 y (.tail _ hy)
    have e1 : (wipeE ρ [i]).set i (some x) = ρ.set i (some x) := by show (ρ.set i none).set i _ = _; rw [List.set_set]
    have e2 : backE ρ (ρ.set i (some x)) [i] = ρ := by show (ρ.set i (some x)).set i (gv ρ i) = _; rw [List.set_set, set_gv hi]
    simp only [compL, gVar, e1, h1 x (.head _)]
    cases hb : b x with
    | true => simp only [h2 x (.head _) hb, e2, ih, Er.bind, List.filter_cons, hb, List.map_cons, if_true]
    | false => simp only [e2, ih, List.filter_cons, hb]; rfl
theorem comp_map {i : Nat} {e : EM Dt} (f : Dt → Dt) {ρ : Env} (hi : i < ρ.length) (xs : List Dt) (h : ∀ x ∈ xs, e (ρ.set i (some x)) = .ok (f x) (ρ.set i (some x))) :
    compL [i] (gVar i) cYes e xs ρ = .ok (xs.map f) ρ := by
  have := comp_filter (c := cYes) (fun _ => true) f hi xs (fun _ _ => rfl) fun x hx _ => h x hx
  rw [List.filter_eq_self.mpr fun _ _ => rfl] at this
  exact this
/-- each item by itself, given as other data -/
theorem comp_mapC {β : Type} {i : Nat} {e : EM Dt} (c : β → Dt) (f : β → Dt) {ρ : Env} (hi : i < ρ.length) (l : List β) (h : ∀ x ∈ l, e (ρ.set i (some (c x))) = .ok (f x) (ρ.set i (some (c x)))) :
    compL [i] (gVar i) cYes e (l.map c) ρ = .ok (l.map f) ρ := by
  induction l with
  | nil => rfl
  | cons x r ih =>
    have ih := ih fun y hy => h y (.tail _ hy)
    have e1 : (wipeE ρ [i]).set i (some (c x)) = ρ.set i (some (c x)) := by show (ρ.set i none).set i _ = _; rw [List.set_set]
    have e2 : backE ρ (ρ.set i (some (c x))) [i] = ρ := by show (ρ.set i (some (c x))).set i (gv ρ i) = _; rw [List.set_set, set_gv hi]
    simp only [List.map_cons, compL, gVar, e1, cYes, h x (.head _), e2, ih, Er.bind]
/-- two names -/
theorem comp_map2 {β : Type} {i j : Nat} {e : EM Dt} (c d : β → Dt) (f : β → Dt) {ρ : Env} (hi : i < ρ.length) (hj : j < ρ.length) (ne : i ≠ j) (l : List β)
    (h : ∀ x ∈ l, e ((ρ.set i (some (c x))).set j (some (d x))) = .ok (f x) ((ρ.set i (some (c x))).set j (some (d x)))) :
    compL [i, j] (gTupD [gVar i, gVar j]) cYes e (l.map fun x => .tup [c x, d x]) ρ = .ok (l.map f) ρ := by
  induction l with
  | nil => rfl
  | cons x r ih =>
    have ih := ih fun y hy => h y (.tail _ hy)
    have e1 : gTupD [gVar i, gVar j] (.tup [c x, d x]) (wipeE ρ [i, j]) = some ((ρ.set i (some (c x))).set j (some (d x))) := by
      show some (((((ρ.set j none).set i none).set i (some (c x))).set j (some (d x)))) = _
      rw [List.set_set, List.set_comm _ _ (Ne.symm ne), List.set_set]
    have e2 : backE ρ ((ρ.set i (some (c x))).set j (some (d x))) [i, j] = ρ := by
      show ((((ρ.set i (some (c x))).set j (some (d x))).set j (gv ρ j)).set i (gv ρ i)) = _
      rw [List.set_set, List.set_comm _ _ (Ne.symm ne), List.set_set, set_gv hi, set_gv hj]
    simp only [List.map_cons, compL, e1, cYes, h x (.head _), e2, ih, Er.bind]
/-- with a state -/
theorem comp_st {α : Type} {vs : List Nat} {g : Dt → Env → Option Env} {e : EM Dt} (E : α → Env) (R : Dt → Prop) (xs : List Dt)
    (h : ∀ a, ∀ x ∈ xs, ∃ ρ1 d ρ3 a', g x (wipeE (E a) vs) = some ρ1 ∧ e ρ1 = .ok d ρ3 ∧ backE (E a) ρ3 vs = E a' ∧ R d) (a : α) :
    ∃ ds a', compL vs g cYes e xs (E a) = .ok ds (E a') ∧ ds.length = xs.length ∧ ∀ d ∈ ds, R d := by
  induction xs generalizing a with
  | nil => exact ⟨[], a, rfl, rfl, fun _ h => (List.not_mem_nil h).elim⟩
  | cons x r ih =>
    obtain ⟨ρ1, d, ρ3, a1, e1, e2, e3, hr⟩ := h a x (.head _)
    obtain ⟨ds, a2, e4, hl, hR⟩ := ih (fun a y hy => h a y (.tail _ hy)) a1
    refine ⟨d :: ds, a2, ?_, by simp [hl], fun y hy => ?_⟩
    · simp only [compL, e1, cYes, e2, e3, e4, Er.bind]
    · rcases List.mem_cons.mp hy with rfl | h2
      · exact hr
      · exact hR y h2
theorem comp_len {x : List Dt} {l : List Int} {f : Int → Dt} (h : x = l.map f) : x.length = l.length := by rw [h, List.length_map]
/-- data that are numbers -/
theorem ints_of {R : Int → Prop} {ds : List Dt} (h : ∀ d ∈ ds, ∃ v, d = .int v ∧ R v) : ∃ l : List Int, ds = l.map .int ∧ l.length = ds.length ∧ ∀ v ∈ l, R v := by
  induction ds with
  | nil => exact ⟨[], rfl, rfl, fun _ h => (List.not_mem_nil h).elim⟩
  | cons d r ih =>
    obtain ⟨v, rfl, hv⟩ := h d (.head _)
    obtain ⟨l, rfl, hl, hR⟩ := ih fun y hy => h y (.tail _ hy)
    exact ⟨v :: l, rfl, by simp, fun y hy => by rcases List.mem_cons.mp hy with rfl | h2; exact hv; exact hR y h2⟩
/-! ### data that the laws compare -/
def okD : Nat → Dt → Prop
  | _, .non => True
  | _, .bl _ => True
  | _, .int _ => True
  | _, .str _ => True
  | n + 1, .lst l => l.length ≤ 16777216 ∧ ∀ d ∈ l, okD n d
  | n + 1, .tup l => l.length ≤ 16777216 ∧ ∀ d ∈ l, okD n d
  | _, _ => False
theorem okD_ints {n : Nat} {l : List Int} (h : l.length ≤ 16777216) : okD (n + 1) (.lst (l.map .int)) := ⟨by simpa using h, fun d hd => by
  obtain ⟨i, _, rfl⟩ := List.mem_map.mp hd; cases n <;> trivial⟩
/-! ### what holds at a statement's end -/
def Wp (r : Sr) (Q : Sr → Prop) : Prop := Q r
def Wq (r : Fq) (Q : Fq → Prop) : Prop := Q r
theorem wp_then {r : Sr} {f : SM} {Q : Sr → Prop} (h : Wp r fun x => Wp (x.then f) Q) : Wp (r.then f) Q := h
theorem wp_turn {r : Sr} {f : SM} {Q : Sr → Prop} (h : Wp r fun x => Wp (x.turn f) Q) : Wp (r.turn f) Q := h
theorem wp_rid {r : Sr} {i : Nat} {Q : Sr → Prop} (h : Wp r fun x => Wp (x.rid i) Q) : Wp (r.rid i) Q := h
theorem wp_of {r : Sr} {Q : Sr → Prop} (h : Wp r Q) : Q r := h
theorem wp_imp {r : Sr} {Q R : Sr → Prop} (h : Wp r Q) (i : ∀ x, Q x → R x) : Wp r R := i _ h
theorem wp_nx {ρ : Env} {Q : Sr → Prop} (h : Q (.nx ρ)) : Wp (.nx ρ) Q := h
theorem wp_rt {d : Dt} {ρ : Env} {Q : Sr → Prop} (h : Q (.rt d ρ)) : Wp (.rt d ρ) Q := h
theorem wp_ite {p : Prop} [Decidable p] {a b : Sr} {Q : Sr → Prop} (h1 : p → Wp a Q) (h2 : ¬p → Wp b Q) : Wp (if p then a else b) Q := by
  by_cases h : p
  · rw [if_pos h]; exact h1 h
  · rw [if_neg h]; exact h2 h
theorem wp_if {c : EM Bool} {a b : SM} {ρ ρ1 : Env} {k : Bool} {Q : Sr → Prop} (hc : c ρ = .ok k ρ1) (h1 : k = true → Wp (a ρ1) Q) (h2 : k = false → Wp (b ρ1) Q) : Wp (sIf c a b ρ) Q := by
  unfold Wp; rw [w_if, hc, w_go1]
  cases k with
  | true => exact h1 rfl
  | false => exact h2 rfl
theorem wp_seq {a b : SM} {ρ : Env} {Q : Sr → Prop} (h : Wp (a ρ) fun x => Wp (x.then b) Q) : Wp (sSeq a b ρ) Q := h
theorem wp_try {b : SM} {hs : List (Str × (Ex → SM))} {ρ : Env} {Q : Sr → Prop} (h : Wp (b ρ) fun r => match r with
  | .ex e ρ1 => Wp (match hs.find? (fun h => subX e.c h.1) with | some h => h.2 e ρ1 | none => .ex e ρ1) Q
  | r => Q r) : Wp (sTry b hs ρ) Q := by
  unfold Wp at h ⊢; rw [w_try]
  cases e : b ρ <;> rw [e] at h <;> exact h
theorem wq_run {g : Sg} {body : SM} {ds : List Dt} {Q : Fq → Prop} (h0 : ds.length = g.ar) (h : Wp (body (ds.map some ++ List.replicate (g.n - g.ar) none)) fun r => Wq (endF g r) Q) : Wq (runF g body ds) Q := by
  unfold runF; rw [if_pos h0]; exact h
theorem wq_of {r : Fq} {Q : Fq → Prop} (h : Wq r Q) : Q r := h
theorem wp_loop {g : Dt → Env → Option Env} {body : SM} (I : List Dt → Env → Prop) {Q : Sr → Prop} {xs : List Dt} {ρ : Env} (h0 : I xs ρ)
    (step : ∀ x r ρ, I (x :: r) ρ → ∃ ρ1, g x ρ = some ρ1 ∧ Wp (body ρ1) fun z => match z with | .nx ρ2 => I r ρ2 | .ct ρ2 => I r ρ2 | .bk ρ2 => Q (.nx ρ2) | y => Q y)
    (done : ∀ ρ, I [] ρ → Q (.nx ρ)) : Wp (sLoop g body xs ρ) Q := loop_wp I Q h0 step done
/-- a loop over numbers, with a state -/
theorem wp_loopE {α : Type} {g : Dt → Env → Option Env} {body : SM} (E : α → Env) {Q : Sr → Prop} {xs : List Dt} {ρ : Env} (a : α) (h0 : ρ = E a)
    (step : ∀ x, x ∈ xs → ∀ a, ∃ ρ1, g x (E a) = some ρ1 ∧ Wp (body ρ1) fun z => match z with | .nx ρ2 => ∃ a', ρ2 = E a' | .ct ρ2 => ∃ a', ρ2 = E a' | .bk ρ2 => Q (.nx ρ2) | y => Q y)
    (done : ∀ a, Q (.nx (E a))) : Wp (sLoop g body xs ρ) Q := by
  refine wp_loop (fun r ρ => (∀ x ∈ r, x ∈ xs) ∧ ∃ a, ρ = E a) ⟨fun x h => h, a, h0⟩ (fun x r ρ h => ?_) fun ρ h => ?_
  · obtain ⟨h1, a, rfl⟩ := h
    obtain ⟨ρ1, e, h⟩ := step x (h1 x (.head _)) a
    refine ⟨ρ1, e, wp_imp h fun z hz => ?_⟩
    cases z with
    | nx ρ2 => exact ⟨fun y hy => h1 y (.tail _ hy), hz⟩
    | ct ρ2 => exact ⟨fun y hy => h1 y (.tail _ hy), hz⟩
    | bk ρ2 => exact hz
    | rt d ρ2 => exact hz
    | ex d ρ2 => exact hz
    | stuck => exact hz
  · obtain ⟨_, a, rfl⟩ := h; exact done a
/-! ### operations on data -/
theorem w_addI {i j : Int} : addD [.int i, .int j] = some (.int (i + j)) := rfl
theorem w_addI2 {i j : Int} : addI [.int i, .int j] = some (.int (i + j)) := rfl
theorem w_subI {i j : Int} : subD [.int i, .int j] = some (.int (i - j)) := rfl
theorem w_subI2 {i j : Int} : subI [.int i, .int j] = some (.int (i - j)) := rfl
theorem w_andI {i j : Int} : andD [.int i, .int j] = some (.int (Builtin.bitAnd i j)) := rfl
theorem w_orI {i j : Int} : orD [.int i, .int j] = some (.int (Builtin.bitOr i j)) := rfl
theorem w_xorI {i j : Int} : xorD [.int i, .int j] = some (.int (Builtin.bitXor i j)) := rfl
theorem w_negI {i : Int} : negD [.int i] = some (.int (-i)) := rfl
theorem w_ltI {i j : Int} : ltD [.int i, .int j] = some (.bl (decide (i < j))) := rfl
theorem w_leI {i j : Int} : leD [.int i, .int j] = some (.bl (decide (i ≤ j))) := rfl
theorem w_gtI {i j : Int} : gtD [.int i, .int j] = some (.bl (decide (j < i))) := rfl
theorem w_geI {i j : Int} : geD [.int i, .int j] = some (.bl (decide (j ≤ i))) := rfl
theorem w_eqD {a b : Dt} : eqD [a, b] = (eqB a b).map .bl := rfl
theorem w_neD {a b : Dt} : neD [a, b] = (eqB a b).map fun k => .bl (!k) := rfl
theorem w_isN1 {a : Dt} : isND [a, .non] = some (.bl (isN a)) := rfl
theorem w_isN2 {a : Dt} : notND [a, .non] = some (.bl (!isN a)) := rfl
theorem w_isN3 : isN .non = true := rfl
theorem w_isN4 {l : List Dt} : isN (.lst l) = false := rfl
theorem w_isN5 {l : List Dt} : isN (.tup l) = false := rfl
theorem w_isN6 {i : Int} : isN (.int i) = false := rfl
theorem w_isN7 {x : Str} : isN (.str x) = false := rfl
theorem w_isN8 {c : Str} {fs : List (Str × Dt)} : isN (.obj c fs) = false := rfl
theorem w_isN9 {i : Bool} : isN (.bl i) = false := rfl
theorem w_ixL {l : List Dt} {i : Int} : ixD [.lst l, .int i] = atI l i := rfl
theorem w_ixR {l : List Dt} {i : Int} : ixD [.rol l, .int i] = atI l i := rfl
theorem w_ixT {l : List Dt} {i : Int} : ixD [.tup l, .int i] = atI l i := rfl
theorem w_lenL {l : List Dt} : lenD [.lst l] = some (.int l.length) := rfl
theorem w_lenR {l : List Dt} : lenD [.rol l] = some (.int l.length) := rfl
theorem w_lenT {l : List Dt} : lenD [.tup l] = some (.int l.length) := rfl
theorem w_lenS {x : Str} (h : x.length ≤ 16777216) : lenD [.str x] = some (.int x.length) := if_pos h
theorem w_listL {l : List Dt} : listD [.lst l] = some (.lst l) := rfl
theorem w_listR {l : List Dt} : listD [.rol l] = some (.lst l) := rfl
theorem w_listT {l : List Dt} : listD [.tup l] = some (.lst l) := rfl
theorem w_tupleL {l : List Dt} : tupleD [.lst l] = some (.tup l) := rfl
theorem w_tupleR {l : List Dt} : tupleD [.rol l] = some (.tup l) := rfl
theorem w_tupleT {l : List Dt} : tupleD [.tup l] = some (.tup l) := rfl
theorem w_intI {i : Int} : intD [.int i] = some (.int i) := rfl
theorem w_intB {k : Bool} : intD [.bl k] = some (.int (if k then 1 else 0)) := rfl
theorem w_max2 {i j : Int} : max2D [.int i, .int j] = some (.int (if j > i then j else i)) := rfl
theorem w_min2 {i j : Int} : min2D [.int i, .int j] = some (.int (if j < i then j else i)) := rfl
theorem w_sumL {l : List Int} : sumD [.lst (l.map .int)] = some (.int l.sum) := by simp only [sumD, lstI, intsD_map, Option.map]
theorem w_notB {b : Bool} : notD [.bl b] = some (.bl !b) := rfl
theorem w_isi {d : Dt} {T : String} : isiD T [d] = (tyD d).map fun t => .bl (subT t T) := rfl
theorem w_ty1 : tyD .non = some "NoneType" := rfl
theorem w_ty2 {b : Bool} : tyD (.bl b) = some "bool" := rfl
theorem w_ty3 {b : Int} : tyD (.int b) = some "int" := rfl
theorem w_ty4 {b : Str} : tyD (.str b) = some "str" := rfl
theorem w_ty5 {b : List Dt} : tyD (.lst b) = some "list" := rfl
theorem w_ty6 {b : List Dt} : tyD (.rol b) = some "list" := rfl
theorem w_ty7 {b : List Dt} : tyD (.tup b) = some "tuple" := rfl
theorem w_tr1 : truD .non = some false := rfl
theorem w_tr2 {b : Bool} : truD (.bl b) = some b := rfl
theorem w_tr3 {i : Int} : truD (.int i) = some (i != 0) := rfl
theorem w_tr5 {l : List Dt} : truD (.lst l) = some (!l.isEmpty) := rfl
theorem w_tr6 {l : List Dt} : truD (.rol l) = some (!l.isEmpty) := rfl
theorem w_tr7 {l : List Dt} : truD (.tup l) = some (!l.isEmpty) := rfl
theorem w_sq1 {l : List Dt} : seqJ (.lst l) = some l := rfl
theorem w_sq2 {l : List Dt} : seqJ (.rol l) = some l := rfl
theorem w_sq3 {l : List Dt} : seqJ (.tup l) = some l := rfl
theorem w_sq4 {x : Str} : seqJ (.str x) = some (signs x) := rfl
theorem w_zip {a b : List Dt} : zipD [.lst a, .lst b] = some (zipL a b) := rfl
theorem w_slL {l : List Dt} {i j : Option Int} : sliceL (.lst l) i j = some (.lst (cutL l i j)) := rfl
theorem w_slR {l : List Dt} {i j : Option Int} : sliceL (.rol l) i j = some (.lst (cutL l i j)) := rfl
theorem w_len63 {α : Type} {l : List α} {j : Int} (h : 0 ≤ j) : cutL l none (some j) = l.take j.toNat := by
  have e : HT.sIx l.length 0 none = 0 := rfl
  have e2 : HT.sIx l.length l.length (some j) = min j.toNat l.length := by show (if j < 0 then _ else _) = _; rw [if_neg (by omega)]
  unfold cutL; rw [e, e2, List.drop_zero, Nat.sub_zero]
  rcases Nat.le_total j.toNat l.length with h1 | h1
  · rw [Nat.min_eq_left h1]
  · rw [Nat.min_eq_right h1, List.take_length, List.take_of_length_le h1]
theorem wq_rt {g : Sg} {d : Dt} {ρ : Env} {Q : Fq → Prop} (h : Q (.ok d (outsOf g.po g.k ρ))) : Wp (.rt d ρ) fun r => Wq (endF g r) Q := h
theorem wq_ex {g : Sg} {e : Ex} {ρ : Env} {Q : Fq → Prop} (h : Q (.ex e (outsOf g.px g.k ρ))) : Wp (.ex e ρ) fun r => Wq (endF g r) Q := h
theorem blsD_map {α : Type} (f : α → Bool) (l : List α) : blsD (l.map fun x => .bl (f x)) = some (l.map f) := by
  induction l with
  | nil => rfl
  | cons a l ih => show (blsD (l.map fun x => .bl (f x))).map _ = _; rw [ih]; rfl
theorem x_allM {α : Type} {f : α → Bool} {l : List α} : allD [.lst (l.map fun x => .bl (f x))] = some (.bl (l.all f)) := by
  simp only [allD, lstI, blsD_map, Option.map]; congr 2; simp [List.all_map, Function.comp_def]
theorem x_anyM {α : Type} {f : α → Bool} {l : List α} : anyD [.lst (l.map fun x => .bl (f x))] = some (.bl (l.any f)) := by
  simp only [anyD, lstI, blsD_map, Option.map]; congr 2; simp [List.any_map, Function.comp_def]
theorem zipL_map {α β : Type} (f : α → Dt) (g : β → Dt) (a : List α) (b : List β) : zipL (a.map f) (b.map g) = (a.zip b).map fun x => .tup [f x.1, g x.2] := by
  induction a generalizing b with
  | nil => cases b <;> rfl
  | cons x a ih => cases b with
    | nil => rfl
    | cons y b => show _ :: zipL (a.map f) (b.map g) = _; rw [ih]; rfl
theorem w_nat {a b : Nat} : ((a : Int) = (b : Int)) = (a = b) := propext ⟨fun h => by omega, fun h => by rw [h]⟩
theorem w_zipl {a b : List Dt} : (zipL a b).length = min a.length b.length := by
  induction a generalizing b with
  | nil => cases b <;> simp [zipL]
  | cons x a ih => cases b with
    | nil => simp [zipL]
    | cons y b => simp only [zipL, List.length_cons, ih]; omega
/-- a loop as a fold, with what holds -/
theorem loop_foldI {α β : Type} {g : Dt → Env → Option Env} {body : SM} (E : α → Option Dt → Env) (c : β → Dt) (f : α → β → α) (P : α → Prop) (l : List β)
    (step : ∀ a o b, b ∈ l → P a → P (f a b) ∧ ∃ ρ1, g (c b) (E a o) = some ρ1 ∧ body ρ1 = .nx (E (f a b) (some (c b)))) (a : α) (h : P a) (o : Option Dt) :
    ∃ o', sLoop g body (l.map c) (E a o) = .nx (E (l.foldl f a) o') ∧ P (l.foldl f a) := by
  induction l generalizing a o with
  | nil => exact ⟨o, rfl, h⟩
  | cons b r ih =>
    obtain ⟨hp, ρ1, e, h⟩ := step a o b (.head _) h
    obtain ⟨o', h', hq⟩ := ih (fun a o b hb => step a o b (.tail _ hb)) (f a b) hp (some (c b))
    refine ⟨o', ?_, hq⟩
    simp only [List.map_cons, sLoop, e, h, Sr.turn]
    exact h'
theorem comp_filterC {β : Type} {i : Nat} {c : EM Bool} {e : EM Dt} (d : β → Dt) (b : β → Bool) (f : β → Dt) {ρ : Env} (hi : i < ρ.length) (l : List β) (h1 : ∀ x ∈ l, c (ρ.set i (some (d x))) = .ok (b x) (ρ.set i (some (d x))))
    (h2 : ∀ x ∈ l, b x = true → e (ρ.set i (some (d x))) = .ok (f x) (ρ.set i (some (d x)))) : compL [i] (gVar i) c e (l.map d) ρ = .ok ((l.filter b).map f) ρ := by
  induction l with
  | nil => rfl
  | cons x r ih =>
    have ih := ih (fun y hy => h1 y (.tail _ hy)) fun y hy => h2 y (.tail _ hy)
    have e1 : (wipeE ρ [i]).set i (some (d x)) = ρ.set i (some (d x)) := by show (ρ.set i none).set i _ = _; rw [List.set_set]
    have e2 : backE ρ (ρ.set i (some (d x))) [i] = ρ := by show (ρ.set i (some (d x))).set i (gv ρ i) = _; rw [List.set_set, set_gv hi]
    simp only [List.map_cons, compL, gVar, e1, h1 x (.head _)]
    cases hb : b x with
    | true => simp only [h2 x (.head _) hb, e2, ih, Er.bind, List.filter_cons, hb, List.map_cons, if_true]
    | false => simp only [e2, ih, List.filter_cons, hb]; rfl
theorem rngL0 (n : Nat) : rngL 0 n = (List.range n).map fun k : Nat => Dt.int (k : Int) := by
  rw [rngL_map, List.map_map]; congr 1; funext k; simp
theorem atI_getD {l : List Int} {k : Nat} (h : k < l.length) : atI (l.map Dt.int) (k : Int) = some (.int (l.getD k 0)) := by
  rw [atI_int h]; simp [List.getD_eq_getElem?_getD, List.getElem?_eq_getElem h]
theorem zipWith_range (f : Int → Int → Int) {a b : List Int} (h : b.length = a.length) : (List.range a.length).map (fun k => f (a.getD k 0) (b.getD k 0)) = List.zipWith f a b := by
  apply List.ext_getElem
  · simp [h]
  · intro k h1 h2
    simp at h1
    have h3 : k < b.length := by omega
    simp [List.getD_eq_getElem?_getD, List.getElem?_eq_getElem h1, List.getElem?_eq_getElem h3]
theorem w_pow {i j : Int} (h : 0 ≤ j ∧ j ≤ 1000000 ∧ -18446744073709551616 < i ∧ i < 18446744073709551616) : powD [.int i, .int j] = some (.int (i ^ j.toNat)) := by
  refine if_pos ⟨h.1, h.2.1, ?_⟩
  obtain ⟨_, _, _, _⟩ := h
  show i.natAbs < 18446744073709551616
  omega
theorem x_chain {f g : List Dt → Option Dt} {a b c : EM Dt} {ρ : Env} : eChain f g a b c ρ = (a ρ).bind fun x ρ1 => (b ρ1).bind fun y ρ2 => match f [x, y] with
  | some (.bl true) => (c ρ2).bind fun z ρ3 => (match g [y, z] with | some w => .ok w ρ3 | none => .stuck)
  | some (.bl false) => .ok (.bl false) ρ2
  | _ => .stuck := rfl
/-- a chain of numbers -/
theorem chain_le {a b c : EM Dt} {ρ : Env} {x y z : Int} (ha : a ρ = .ok (.int x) ρ) (hb : b ρ = .ok (.int y) ρ) (hc : c ρ = .ok (.int z) ρ) : eChain leD leD a b c ρ = .ok (.bl (decide (x ≤ y ∧ y ≤ z))) ρ := by
  rw [x_chain, ha, w_bd1, hb, w_bd1]
  by_cases h : x ≤ y
  · simp only [leD, decide_eq_true h, hc, w_bd1, h, true_and, decide_true]
  · simp only [leD, decide_eq_false h, h, false_and, decide_false]
theorem w_make {cn : Str} {f : List Dt → Fq} {as : List AE} {dds : List Dt} {ρ : Env} : eMake cn f as dds ρ = (eArgs as ρ).bind fun ds ρ1 => match f (.obj cn [] :: (ds ++ dds)) with
  | .ok .non (some d :: outs) => .ok d (putO as outs ρ1)
  | .ex e outs => .ex e (putO as outs.tail ρ1)
  | _ => .stuck := rfl
theorem w_fldS {i : Nat} {cs : List Str} {g : Str} {e : EM Dt} {ρ : Env} : sFldS i cs g e ρ = (e ρ).go fun d ρ1 => match gv ρ1 i with
  | some (.obj cn fs) => if cs.contains cn && decide (fs.length < 1000) then .nx (ρ1.set i (some (.obj cn (setFD g d fs)))) else .stuck
  | _ => .stuck := rfl
theorem w_fld {cs : List Str} {f : Str} {e : EM Dt} {ρ : Env} : eFld cs f e ρ = (e ρ).bind fun d ρ1 => match d with | .obj cn fs => if cs.contains cn then (match fs.lookup f with | some z => .ok z ρ1 | none => .stuck) else .stuck | _ => .stuck := rfl
theorem w_meth {cn m : Str} {f : List Dt → Fq} {o : EM Dt} {as : List AE} {dds : List Dt} {ρ : Env} : eMethV cn m f o as dds ρ = (o ρ).bind fun d ρ1 => if isC cn m d = true then eCall f (.val (eC d) :: as) dds ρ1 else .stuck := rfl
theorem w_un {e : EM Dt} {g : Dt → Env → Option Env} {ρ : Env} : sUn e g ρ = (e ρ).go fun d ρ1 => match g d ρ1 with | some ρ2 => .nx ρ2 | none => .stuck := rfl
theorem w_gt2 {g h : Dt → Env → Option Env} {a b : Dt} {ρ : Env} : gTupD [g, h] (.tup [a, b]) ρ = (g a ρ).bind fun ρ1 => (h b ρ1).bind some := rfl
theorem wq_nx {g : Sg} {ρ : Env} {Q : Fq → Prop} (h : Q (.ok .non (outsOf g.po g.k ρ))) (hrs : g.rs = .fz := by rfl) : Wp (.nx ρ) fun r => Wq (endF g r) Q := by
  show Q (endF g (.nx ρ))
  rw [w_end3, hrs]; exact h
def cLe (a : Int) (o : Option Dt) (e : Er Dt) (c : Int) (ρ : Env) : Er Dt := match o with
  | some (.int y) => .ok (.bl (decide (a ≤ y ∧ y ≤ c))) ρ
  | _ => e
theorem w_chLe {a c : Int} {i : Nat} {ρ : Env} : eChain leD leD (eC (.int a)) (eVar i) (eC (.int c)) ρ = cLe a (gv ρ i) ((eVar i ρ).bind fun y ρ2 => match leD [.int a, y] with
  | some (.bl true) => (match leD [y, .int c] with | some w => .ok w ρ2 | none => .stuck)
  | some (.bl false) => .ok (.bl false) ρ2
  | _ => .stuck) c ρ := by
  unfold cLe
  split
  · rename_i y e
    exact chain_le rfl (by unfold eVar; rw [e]) rfl
  · rfl
theorem w_cLe {a y c : Int} {e : Er Dt} {ρ : Env} : cLe a (some (.int y)) e c ρ = .ok (.bl (decide (a ≤ y ∧ y ≤ c))) ρ := rfl
/-! ### folds, picks (by functions that are total) -/
theorem wp_fold {α β γ : Type} {g : Dt → Env → Option Env} {body : SM} {Q : Sr → Prop} {xs : List Dt} {ρ : Env} (E : α → γ → Env) (c : β → Dt) (f : α → β → α) (P : List β → α → Prop) (l : List β) (a : α) (j : γ) (hx : xs = l.map c) (h0 : ρ = E a j) (hp : P l a)
    (step : ∀ a j b r, P (b :: r) a → P r (f a b) ∧ ∃ ρ1, g (c b) (E a j) = some ρ1 ∧ Wp (body ρ1) fun z => ∃ j', z = .nx (E (f a b) j') ∨ z = .ct (E (f a b) j'))
    (done : ∀ j, P [] (l.foldl f a) → Q (.nx (E (l.foldl f a) j))) : Wp (sLoop g body xs ρ) Q := by
  subst hx h0
  induction l generalizing a j with
  | nil => exact done j hp
  | cons b r ih =>
    obtain ⟨hp', ρ1, e, h⟩ := step a j b r hp
    unfold Wp at h ⊢
    obtain ⟨j', h⟩ := h
    simp only [List.map_cons, sLoop, e]
    rcases h with h | h <;> (rw [h]; exact ih (f a b) j' hp' done)
theorem atI_mem {l : List Dt} {i : Int} (h0 : 0 ≤ i) (h1 : i < l.length) : ∃ d, atI l i = some d ∧ d ∈ l := by
  obtain ⟨k, rfl⟩ : ∃ k : Nat, i = k := ⟨i.toNat, by omega⟩
  have hk : k < l.length := by omega
  exact ⟨l[k], atI_nat (List.getElem?_eq_getElem hk), List.getElem_mem hk⟩
theorem getD_at {l : List Int} {k : Nat} (h : k < l.length) : l.getD k 0 = l[k] := by simp [List.getD_eq_getElem?_getD, List.getElem?_eq_getElem h]
theorem getD_all {P : Int → Prop} {l : List Int} (h : ∀ v ∈ l, P v) (h0 : P 0) (k : Nat) : P (l.getD k 0) := by
  by_cases hk : k < l.length
  · rw [getD_at hk]; exact h _ (List.getElem_mem hk)
  · rw [List.getD_eq_getElem?_getD, List.getElem?_eq_none (by omega)]; exact h0
def nI (l : List Int) (i : Int) : Int := l.getD i.toNat 0
theorem nI_nat {l : List Int} {k : Nat} (h : k < l.length) : nI l (k : Int) = l[k] := by unfold nI; rw [Int.toNat_natCast, getD_at h]
theorem nI_in {l : List Int} {i : Int} (h0 : 0 ≤ i) (h1 : i < l.length) : nI l i ∈ l := by
  obtain ⟨k, rfl⟩ : ∃ k : Nat, i = k := ⟨i.toNat, by omega⟩
  have : k < l.length := by omega
  rw [nI_nat this]; exact List.getElem_mem this
theorem nI_all {P : Int → Prop} {l : List Int} (h : ∀ v ∈ l, P v) (h0 : P 0) (i : Int) : P (nI l i) := getD_all h h0 _
theorem w_atI {l : List Int} {i : Int} (h : 0 ≤ i ∧ i < l.length) : atI (l.map Dt.int) i = some (.int (nI l i)) := by
  obtain ⟨k, rfl⟩ : ∃ k : Nat, i = k := ⟨i.toNat, by omega⟩
  rw [atI_getD (by omega)]; rfl
theorem w_at2 {a b : Int} {i : Int} (h : 0 ≤ i ∧ i < 2) : atI [Dt.int a, Dt.int b] i = some (.int (nI [a, b] i)) := w_atI (l := [a, b]) h
theorem w_at3 {a b c : Int} {i : Int} (h : 0 ≤ i ∧ i < 3) : atI [Dt.int a, Dt.int b, Dt.int c] i = some (.int (nI [a, b, c] i)) := w_atI (l := [a, b, c]) h
theorem w_at4 {a b c d : Int} {i : Int} (h : 0 ≤ i ∧ i < 4) : atI [Dt.int a, Dt.int b, Dt.int c, Dt.int d] i = some (.int (nI [a, b, c, d] i)) := w_atI (l := [a, b, c, d]) h
theorem w_at5 {a b c d e : Int} {i : Int} (h : 0 ≤ i ∧ i < 5) : atI [Dt.int a, Dt.int b, Dt.int c, Dt.int d, Dt.int e] i = some (.int (nI [a, b, c, d, e] i)) := w_atI (l := [a, b, c, d, e]) h
theorem w_at6 {a b c d e f : Int} {i : Int} (h : 0 ≤ i ∧ i < 6) : atI [Dt.int a, Dt.int b, Dt.int c, Dt.int d, Dt.int e, Dt.int f] i = some (.int (nI [a, b, c, d, e, f] i)) := w_atI (l := [a, b, c, d, e, f]) h
theorem w_at7 {a b c d e f g : Int} {i : Int} (h : 0 ≤ i ∧ i < 7) : atI [Dt.int a, Dt.int b, Dt.int c, Dt.int d, Dt.int e, Dt.int f, Dt.int g] i = some (.int (nI [a, b, c, d, e, f, g] i)) := w_atI (l := [a, b, c, d, e, f, g]) h
theorem w_at8 {a b c d e f g h8 : Int} {i : Int} (h : 0 ≤ i ∧ i < 8) : atI [Dt.int a, Dt.int b, Dt.int c, Dt.int d, Dt.int e, Dt.int f, Dt.int g, Dt.int h8] i = some (.int (nI [a, b, c, d, e, f, g, h8] i)) := w_atI (l := [a, b, c, d, e, f, g, h8]) h
theorem mul_bd {a b A B : Int} (h1 : 0 ≤ a) (h2 : a ≤ A) (h3 : 0 ≤ b) (h4 : b ≤ B) : 0 ≤ a * b ∧ a * b ≤ A * B :=
  ⟨Int.mul_nonneg h1 h3, Int.mul_le_mul h2 h4 h3 (Int.le_trans h1 h2)⟩
theorem getD_cons {P : Int → Prop} {l : List Int} {k : Nat} (hk : k < l.length) (h : ∀ v ∈ l, P v) : P (l.getD k 0) := by rw [getD_at hk]; exact h _ (List.getElem_mem hk)
theorem wp_inv {α β : Type} {g : Dt → Env → Option Env} {body : SM} {Q : Sr → Prop} {xs : List Dt} {ρ : Env} (E : α → Env) (c : β → Dt) (P : List β → α → Prop) (l : List β) (a : α) (hx : xs = l.map c) (h0 : ρ = E a) (hp : P l a)
    (step : ∀ a b r, P (b :: r) a → ∃ ρ1, g (c b) (E a) = some ρ1 ∧ Wp (body ρ1) fun z => ∃ a', (z = .nx (E a') ∨ z = .ct (E a')) ∧ P r a')
    (done : ∀ a, P [] a → Q (.nx (E a))) : Wp (sLoop g body xs ρ) Q := by
  subst hx h0
  induction l generalizing a with
  | nil => exact done a hp
  | cons b r ih =>
    obtain ⟨ρ1, e, h⟩ := step a b r hp
    unfold Wp at h ⊢
    obtain ⟨a', h, hp'⟩ := h
    simp only [List.map_cons, sLoop, e]
    rcases h with h | h <;> (rw [h]; exact ih a' hp')
theorem rng_at {n : Nat} {r : List Nat} (h : ∀ k ∈ r, k < n) {b : Nat} {s : List Nat} (e : r = b :: s) : b < n ∧ ∀ k ∈ s, k < n := by subst e; exact ⟨h b (.head _), fun k hk => h k (.tail _ hk)⟩
theorem range_lt (n : Nat) : ∀ k ∈ List.range n, k < n := fun k hk => List.mem_range.mp hk
theorem w_lku {k k' : Str} {v : Dt} {l : List (Str × Dt)} : List.lookup k ((k', v) :: l) = if (k == k') = true then some v else List.lookup k l := by
  rw [List.lookup_cons]; cases k == k' <;> rfl
theorem w_drop0 {l : List Dt} {i : Int} (h : 0 ≤ i) : cutL l (some i) none = l.drop i.toNat := by
  have e : HT.sIx l.length l.length none = l.length := rfl
  have e2 : HT.sIx l.length 0 (some i) = min i.toNat l.length := by show (if i < 0 then _ else _) = _; rw [if_neg (by omega)]
  unfold cutL; rw [e, e2]
  rcases Nat.le_total i.toNat l.length with h1 | h1
  · rw [Nat.min_eq_left h1, List.take_of_length_le (by simp)]
  · rw [Nat.min_eq_right h1, List.drop_length, List.drop_of_length_le h1]; simp
theorem w_cutLH {l : List Dt} {i j : Int} (h : 0 ≤ i ∧ 0 ≤ j) : cutL l (some i) (some j) = (l.take j.toNat).drop i.toNat := by
  have e1 : HT.sIx l.length l.length (some j) = min j.toNat l.length := by show (if j < 0 then _ else _) = _; rw [if_neg (by omega)]
  have e2 : HT.sIx l.length 0 (some i) = min i.toNat l.length := by show (if i < 0 then _ else _) = _; rw [if_neg (by omega)]
  unfold cutL; rw [e1, e2]
  apply List.ext_getElem?
  intro k
  simp only [List.getElem?_take, List.getElem?_drop]
  by_cases h1 : i.toNat ≤ l.length
  · rw [Nat.min_eq_left h1]
    by_cases h2 : k < min j.toNat l.length - i.toNat
    · rw [if_pos h2, if_pos (by omega)]
    · rw [if_neg h2]
      split
      · rw [List.getElem?_eq_none (by omega)]
      · rfl
  · rw [List.getElem?_eq_none (by omega : l.length ≤ min i.toNat l.length + k), List.getElem?_eq_none (by omega : l.length ≤ i.toNat + k)]
    simp
theorem w_cutN {l : List Dt} {k : Nat} : cutL l none (some (-((k : Int) + 1))) = l.take (l.length - (k + 1)) := by
  have e : HT.sIx l.length 0 none = 0 := rfl
  have e2 : HT.sIx l.length l.length (some (-((k : Int) + 1))) = l.length - (k + 1) := by show (if _ < 0 then _ else _) = _; rw [if_pos (by omega)]; omega
  unfold cutL; rw [e, e2, List.drop_zero, Nat.sub_zero]
theorem w_cutM1 {l : List Dt} : cutL l none (some (-1)) = l.take (l.length - 1) := w_cutN (k := 0)
theorem w_atN {l : List Int} {i : Int} (h : i < 0 ∧ -(l.length : Int) ≤ i) : atI (l.map Dt.int) i = some (.int (nI l (i + l.length))) := by
  have e : ixN (l.map Dt.int).length i = some (i + l.length).toNat := by unfold ixN; rw [if_neg (by omega), List.length_map, if_pos (by omega)]
  have hk : (i + l.length).toNat < l.length := by omega
  show (ixN _ i).bind _ = _
  rw [e]
  show (l.map Dt.int)[(i + l.length).toNat]? = _
  rw [List.getElem?_map, List.getElem?_eq_getElem hk]
  unfold nI; rw [getD_at hk]; rfl
theorem x_flat {l : List Int} {n : Nat} : (List.replicate n (l.map Dt.int)).flatten = ((List.replicate n l).flatten).map Dt.int := by simp [List.map_flatten]
theorem x_take {l : List Int} {n : Nat} : (l.map Dt.int).take n = (l.take n).map Dt.int := by simp
theorem x_drop {l : List Int} {n : Nat} : (l.map Dt.int).drop n = (l.drop n).map Dt.int := by simp
theorem x_app {l m : List Int} : l.map Dt.int ++ m.map Dt.int = (l ++ m).map Dt.int := by simp
theorem int_map_inj {a b : List Int} (h : a.map Dt.int = b.map Dt.int) : a = b := by
  induction a generalizing b with
  | nil => cases b with
    | nil => rfl
    | cons _ _ => cases h
  | cons x a ih => cases b with
    | nil => cases h
    | cons y b => simp only [List.map_cons, List.cons.injEq, Dt.int.injEq] at h; rw [h.1, ih h.2]
theorem wp_bk {ρ : Env} {Q : Sr → Prop} (h : Q (.bk ρ)) : Wp (.bk ρ) Q := h
theorem wp_ct {ρ : Env} {Q : Sr → Prop} (h : Q (.ct ρ)) : Wp (.ct ρ) Q := h
theorem wp_ex {e : Ex} {ρ : Env} {Q : Sr → Prop} (h : Q (.ex e ρ)) : Wp (.ex e ρ) Q := h
theorem anyF_int {v : Int} {l : List Int} : anyF (.int v) (l.map .int) = decide (v ∈ l) := by
  unfold anyF
  rw [List.any_map, Bool.eq_iff_iff]
  simp only [List.any_eq_true, Function.comp, decide_eq_true_eq]
  constructor
  · rintro ⟨y, hy, h⟩
    have : y = v := by simpa [eqF] using h
    exact this ▸ hy
  · intro h; exact ⟨v, h, by simp [eqF]⟩
theorem allF_int {l : List Int} : (l.map Dt.int).all flatB = true := by simp [List.all_map, flatB]
theorem x_inT {v : Int} {l : List Int} : inD [.int v, .tup (l.map .int)] = some (.bl (decide (v ∈ l))) := by
  simp only [inD, seqI, flatB, allF_int, anyF_int, Bool.and_self, if_true]
theorem x_notInT {v : Int} {l : List Int} : notInD [.int v, .tup (l.map .int)] = some (.bl (!decide (v ∈ l))) := by
  simp only [notInD, seqI, flatB, allF_int, anyF_int, Bool.and_self, if_true]
theorem x_inL {v : Int} {l : List Int} : inD [.int v, .lst (l.map .int)] = some (.bl (decide (v ∈ l))) := by
  simp only [inD, seqI, flatB, allF_int, anyF_int, Bool.and_self, if_true]
theorem x_notInL {v : Int} {l : List Int} : notInD [.int v, .lst (l.map .int)] = some (.bl (!decide (v ∈ l))) := by
  simp only [notInD, seqI, flatB, allF_int, anyF_int, Bool.and_self, if_true]
theorem x_lp0 {g : Dt → Env → Option Env} {body : SM} {ρ : Env} : sLoop g body [] ρ = .nx ρ := rfl
theorem x_lp1 {g : Dt → Env → Option Env} {body : SM} {x : Dt} {r : List Dt} {ρ : Env} : sLoop g body (x :: r) ρ = match g x ρ with | some ρ1 => (body ρ1).turn (sLoop g body r) | none => .stuck := rfl
theorem notInT_t {v : Int} {l : List Int} (h : v ∉ l) : notInD [.int v, .tup (l.map .int)] = some (.bl true) := by rw [x_notInT]; simp [h]
theorem notInT_f {v : Int} {l : List Int} (h : v ∈ l) : notInD [.int v, .tup (l.map .int)] = some (.bl false) := by rw [x_notInT]; simp [h]
theorem x_maxL {l : List Int} : maxLD [.lst (l.map .int)] = (maxN l).map .int := by simp only [maxLD, lstI, intsD_map, Option.bind]
theorem x_minL {l : List Int} : minLD [.lst (l.map .int)] = (minN l).map .int := by simp only [minLD, lstI, intsD_map, Option.bind]
theorem maxN_ex {l : List Int} (h : l ≠ []) : ∃ m, maxN l = some m ∧ m ∈ l ∧ ∀ y ∈ l, y ≤ m := by
  cases l with
  | nil => exact absurd rfl h
  | cons x r => exact ⟨_, rfl, maxN_sp rfl⟩
theorem minN_ex {l : List Int} (h : l ≠ []) : ∃ m, minN l = some m ∧ m ∈ l ∧ ∀ y ∈ l, m ≤ y := by
  cases l with
  | nil => exact absurd rfl h
  | cons x r => exact ⟨_, rfl, minN_sp rfl⟩
theorem ediv_bd {a b c M : Int} (hb : 0 < b) (h0 : 0 ≤ a) (h : a ≤ M * b) : 0 ≤ a / b ∧ a / b ≤ M := ⟨Int.ediv_nonneg h0 (Int.le_of_lt hb), Int.ediv_le_of_le_mul hb h⟩
theorem w_catT {l m : List Dt} (h : l.length + m.length ≤ 16777216) : addD [.tup l, .tup m] = some (.tup (l ++ m)) := if_pos h
theorem w_gt3 {g h k : Dt → Env → Option Env} {a b c : Dt} {ρ : Env} : gTupD [g, h, k] (.tup [a, b, c]) ρ = (g a ρ).bind fun ρ1 => (h b ρ1).bind fun ρ2 => (k c ρ2).bind some := rfl
/-- each item by itself, any target -/
theorem comp_g {β : Type} {vs : List Nat} {g : Dt → Env → Option Env} {e : EM Dt} (c : β → Dt) (f : β → Dt) {ρ : Env} (l : List β)
    (h : ∀ x ∈ l, ∃ ρ1 ρ2, g (c x) (wipeE ρ vs) = some ρ1 ∧ e ρ1 = .ok (f x) ρ2 ∧ backE ρ ρ2 vs = ρ) : compL vs g cYes e (l.map c) ρ = .ok (l.map f) ρ := by
  induction l with
  | nil => rfl
  | cons x r ih =>
    obtain ⟨ρ1, ρ2, e1, e2, e3⟩ := h x (.head _)
    have ih := ih fun y hy => h y (.tail _ hy)
    simp only [List.map_cons, compL, e1, cYes, e2, e3, ih, Er.bind]
theorem w_eeq {cn : Str} {f : List Dt → Fq} {neg : Bool} {as : List AE} {ρ : Env} : eEqO cn f neg as ρ = (eArgs as ρ).bind fun ds ρ1 => match ds with
  | [.obj c1 fs, .obj c2 gs] => if c1 = cn ∧ c2 = cn then (match f [.obj c1 fs, .obj c2 gs] with | .ok (.bl b) _ => .ok (.bl (ng neg b)) ρ1 | _ => .stuck) else .stuck
  | _ => .stuck := rfl
theorem w_ng1 {b : Bool} : ng true b = !b := rfl
theorem w_ng2 {b : Bool} : ng false b = b := rfl
theorem w_iso {cs : List Str} {cn c : Str} {fs : List (Str × Dt)} : isoD cs cn [.obj c fs] = if cs.contains c then some (.bl (c == cn)) else none := rfl
theorem w_slU {l : List Dt} {i j : Option Int} : sliceU (.tup l) i j = some (.tup (cutL l i j)) := rfl

theorem w_mulI {i j : Int} (h : (-18446744073709551616 < i ∧ i < 18446744073709551616) ∨ (-18446744073709551616 < j ∧ j < 18446744073709551616)) : mulI [.int i, .int j] = some (.int (i * j)) := if_pos h
/-- while -/
theorem wp_while {α : Type} {c : EM Bool} {body : SM} {n : Nat} {Q : Sr → Prop} {ρ : Env} (E : α → Env) (P : α → Prop) (m : α → Nat) (a : α) (h0 : ρ = E a) (hp : P a) (hm : m a < n)
    (step : ∀ a, P a → ∃ b : Bool, c (E a) = .ok b (E a) ∧ (b = true → Wp (body (E a)) fun z => ∃ a', (z = .nx (E a') ∨ z = .ct (E a')) ∧ P a' ∧ m a' < m a) ∧ (b = false → Q (.nx (E a)))) : Wp (sWhile c body n ρ) Q := by
  subst h0
  induction n generalizing a with
  | zero => omega
  | succ n ih =>
    obtain ⟨b, e, h1, h2⟩ := step a hp
    unfold Wp
    simp only [sWhile, e, Er.go]
    cases b with
    | false => exact h2 rfl
    | true =>
      have := h1 rfl
      unfold Wp at this
      obtain ⟨a', h3, h4, h5⟩ := this
      rw [if_pos rfl]
      rcases h3 with h3 | h3 <;> (rw [h3]; exact ih a' h4 (by omega))
theorem x_rg3 {a b c : Int} (h : -1073741824 ≤ a ∧ a < 1073741824 ∧ -1073741824 ≤ b ∧ b < 1073741824 ∧ 0 < c ∧ c < 1073741824) : rng3D [.int a, .int b, .int c] = some (rngC a c ((b - a + c - 1) / c).toNat) := by
  have hc := h.2.2.2.2.1
  have hs : Builtin.Range.rangeSize a b c = ((b - a + c - 1) / c).toNat := by
    unfold Builtin.Range.rangeSize
    rw [if_pos hc]
    have e : b - a + c - 1 = (b - a - 1) + c := by omega
    by_cases hab : a < b
    · have h0 : 0 ≤ (b - a - 1) / c := Int.ediv_nonneg (by omega) (by omega)
      rw [if_pos hab, e, show b - a - 1 + c = b - a - 1 + 1 * c by omega, Int.add_mul_ediv_right _ _ (by omega)]; omega
    · have h1 : (b - a + c - 1) / c < 1 := Int.ediv_lt_of_lt_mul hc (by omega)
      rw [if_neg hab]; omega
  have h2 : ((b - a + c - 1) / c).toNat ≤ 4294967296 := by
    have : (b - a + c - 1) / c ≤ 4294967296 := by
      refine Int.ediv_le_of_le_mul hc ?_
      have : b - a + c - 1 ≤ 4294967296 * 1 := by omega
      have := Int.mul_le_mul_of_nonneg_left (c := 4294967296) (show (1 : Int) ≤ c by omega) (by decide)
      omega
    omega
  unfold rng3D
  simp only [hs]
  rw [if_pos]
  · rw [Int.toNat_natCast]
  · refine ⟨by omega, by omega, ?_, by omega⟩
    unfold Builtin.Range.small Builtin.Range.rangeFitsLong
    rw [hs]
    simp only [Bool.and_eq_true, decide_eq_true_eq, Bool.or_eq_true, gt_iff_lt, hc, if_true]
    refine ⟨⟨⟨⟨by omega, by omega⟩, by omega⟩, by omega⟩, .inr ?_⟩
    omega
theorem rngC_map {a c : Int} {n : Nat} : rngC a c n = (List.range n).map fun i : Nat => Dt.int (a + (i : Int) * c) := rfl
theorem w_bm {ok : Dt → Bool} {f : Dt → List Dt → Option Dt} {e0 : EM Dt} {as : List AE} {ρ : Env} : eBm ok f e0 as ρ = (e0 ρ).bind fun d ρ1 => if ok d = true then (eArgs as ρ1).bind fun ds ρ2 => (match f d ds with | some z => .ok z ρ2 | none => .stuck) else .stuck := rfl
theorem w_isT {l : List Dt} : isTup (.tup l) = true := rfl
theorem w_isL {l : List Dt} : isLst (.lst l) = true := rfl
theorem w_isLr {l : List Dt} : isLst (.rol l) = true := rfl
theorem w_isS {l : Str} : isStr (.str l) = true := rfl
theorem w_keepC {c : EM Bool} {ρ : Env} : cKeep c ρ = match c ρ with
  | .ok b _ => .ok b ρ
  | .ex e ρ' => .ex e ρ'
  | .stuck => .stuck := rfl
theorem w_keepE {e : EM Dt} {ρ : Env} : eKeep e ρ = match e ρ with
  | .ok d _ => if flatB d = true then .ok d ρ else .stuck
  | .ex e ρ' => .ex e ρ'
  | .stuck => .stuck := rfl
theorem w_slPv {e : EM Dt} {lo hi st : Option (EM Dt)} {ρ : Env} : eSlP (.val e) lo hi st ρ = (e ρ).bind fun d ρ1 => (partI lo ρ1).bind fun i ρ2 => (partI hi ρ2).bind fun j ρ3 => (partI st ρ3).bind fun k ρ4 => match sliceP d i j k with | some z => .ok z ρ4 | none => .stuck := rfl
theorem w_slPo {k : Nat} {lo hi st : Option (EM Dt)} {ρ : Env} : eSlP (.own k) lo hi st ρ = if (gv ρ k).isSome then (partI lo ρ).bind fun i ρ2 => (partI hi ρ2).bind fun j ρ3 => (partI st ρ3).bind fun l ρ4 => (match gv ρ4 k with | some d => (match sliceP d i j l with | some z => .ok z ρ4 | none => .stuck) | none => .stuck) else .stuck := rfl
theorem w_glst {gs : List (Dt → Env → Option Env)} {ds : List Dt} {ρ : Env} : gLstD gs (.lst ds) ρ = gAll gs ds ρ := rfl
theorem w_gal0 {ρ : Env} : gAll [] [] ρ = some ρ := rfl
theorem w_gal1 {g : Dt → Env → Option Env} {gs : List (Dt → Env → Option Env)} {d : Dt} {ds : List Dt} {ρ : Env} : gAll (g :: gs) (d :: ds) ρ = (g d ρ).bind fun ρ1 => gAll gs ds ρ1 := rfl
theorem w_gt4 {g h k m : Dt → Env → Option Env} {a b c d : Dt} {ρ : Env} : gTupD [g, h, k, m] (.tup [a, b, c, d]) ρ = (g a ρ).bind fun ρ1 => (h b ρ1).bind fun ρ2 => (k c ρ2).bind fun ρ3 => (m d ρ3).bind some := rfl
theorem w_slo {f : Dt → Option Int → Option Int → Option Dt} {k : Nat} {lo hi : Option (EM Dt)} {ρ : Env} : eSl f (.own k) lo hi ρ = if (gv ρ k).isSome then (partI lo ρ).bind fun i ρ2 => (partI hi ρ2).bind fun j ρ3 => (match gv ρ3 k with | some d => (match f d i j with | some z => .ok z ρ3 | none => .stuck) | none => .stuck) else .stuck := rfl
/-- chains of other kinds -/
def chT (o : Option Dt) (k : Er Dt) (ρ : Env) : Er Dt := match o with | some (.bl true) => k | some (.bl false) => .ok (.bl false) ρ | _ => .stuck
theorem w_chT {p : Prop} [Decidable p] {k : Er Dt} {ρ : Env} : chT (some (.bl (decide p))) k ρ = if p then k else .ok (.bl false) ρ := by
  by_cases h : p <;> simp [chT, h]
theorem w_chLL {a b c : EM Dt} {ρ : Env} : eChain leD ltD a b c ρ = (a ρ).bind fun x ρ1 => (b ρ1).bind fun y ρ2 => chT (leD [x, y]) ((c ρ2).bind fun z ρ3 => match ltD [y, z] with | some w => .ok w ρ3 | none => .stuck) ρ2 := rfl
theorem w_chTL {a b c : EM Dt} {ρ : Env} : eChain ltD leD a b c ρ = (a ρ).bind fun x ρ1 => (b ρ1).bind fun y ρ2 => chT (ltD [x, y]) ((c ρ2).bind fun z ρ3 => match leD [y, z] with | some w => .ok w ρ3 | none => .stuck) ρ2 := rfl
theorem w_chTT {a b c : EM Dt} {ρ : Env} : eChain ltD ltD a b c ρ = (a ρ).bind fun x ρ1 => (b ρ1).bind fun y ρ2 => chT (ltD [x, y]) ((c ρ2).bind fun z ρ3 => match ltD [y, z] with | some w => .ok w ρ3 | none => .stuck) ρ2 := rfl
theorem w_chT1 {k : Er Dt} {ρ : Env} : chT (some (.bl true)) k ρ = k := rfl
theorem w_chT0 {k : Er Dt} {ρ : Env} : chT (some (.bl false)) k ρ = .ok (.bl false) ρ := rfl
theorem w_raiseA {c f : Str} {e : EM Dt} {ρ : Env} : sRaiseA c f e ρ = (e ρ).go fun d ρ1 => .ex ⟨c, [(f, d)]⟩ ρ1 := rfl
theorem w_xf1 {c f : Str} {d : Dt} {ρ : Env} : eXf c ⟨c, [(f, d)]⟩ f ρ = .ok d ρ := by unfold eXf; rw [if_pos rfl]; simp [List.lookup]
def errs : List Str := ["InvalidUnknowns"]
theorem u_sub_InvalidUnknowns_InvalidPlan : subX "InvalidUnknowns" "InvalidPlan" = false := by decide +kernel
theorem u_sub_InvalidUnknowns_InvalidUnknowns : subX "InvalidUnknowns" "InvalidUnknowns" = true := by decide +kernel
theorem u_errs_InvalidUnknowns : errs.contains "InvalidUnknowns" = true := by decide +kernel
theorem u_mem_InvalidUnknowns : ("InvalidUnknowns" : Str) ∈ errs := List.contains_iff_mem.mp u_errs_InvalidUnknowns
theorem u_ne_add_kept : (("add" : Str) = "kept") = False := by simp only [eq_iff_iff, iff_false]; decide +kernel
theorem u_nb_add_kept : (("add" : Str) == "kept") = false := by decide +kernel
theorem u_ne_add_reduced : (("add" : Str) = "reduced") = False := by simp only [eq_iff_iff, iff_false]; decide +kernel
theorem u_nb_add_reduced : (("add" : Str) == "reduced") = false := by decide +kernel
theorem u_ne_kept_add : (("kept" : Str) = "add") = False := by simp only [eq_iff_iff, iff_false]; decide +kernel
theorem u_nb_kept_add : (("kept" : Str) == "add") = false := by decide +kernel
theorem u_ne_kept_reduced : (("kept" : Str) = "reduced") = False := by simp only [eq_iff_iff, iff_false]; decide +kernel
theorem u_nb_kept_reduced : (("kept" : Str) == "reduced") = false := by decide +kernel
theorem u_ne_reduced_add : (("reduced" : Str) = "add") = False := by simp only [eq_iff_iff, iff_false]; decide +kernel
theorem u_nb_reduced_add : (("reduced" : Str) == "add") = false := by decide +kernel
theorem u_ne_reduced_kept : (("reduced" : Str) = "kept") = False := by simp only [eq_iff_iff, iff_false]; decide +kernel
theorem u_nb_reduced_kept : (("reduced" : Str) == "kept") = false := by decide +kernel
def k_BIT_WEIGHTS : List Int := [128, 64, 32, 16, 8, 4, 2, 1]
def k_POWERS : List Int := [1, 2, 4, 8, 16, 32, 64, 128, 256, 512, 1024, 2048, 4096, 8192, 16384, 32768, 65536, 131072, 262144, 524288, 1048576, 2097152, 4194304, 8388608, 16777216]
def sg_z_law_pool : Sg := ⟨[], [], [], (.ls .fz), 0, 1, 3⟩
def body_z_law_pool : SM :=
    (sSeq (sSet 1 (eC (.int 7)))
    (sSeq (sFor (iSeqD (eSl sliceL (.val (eVar 0)) none (some (eC (.int 63))))) (gVar 2)
    (sSet 1 (eOp modD [.val (eOp intD [.val (eOp addD [.val (eOp mulD [.val (eVar 1), .val (eC (.int 31))]), .val (eVar 2)])]), .val (eC (.int 1000003))])))
    ((sRet (eOp lstD [.val (eOp listD [.val (eVar 0)]), .val (eC (.int 0)), .val (eC (.int 0)), .val (eC (.int 0)), .val (eVar 1)])))))
def den_z_law_pool : List Dt → Fq := runF sg_z_law_pool body_z_law_pool
def sg_z_law_spread : Sg := ⟨[], [], [], .fz, 0, 1, 4⟩
def body_z_law_spread : SM :=
    (sSeq (sSet 1 (eOp modD [.val (eOp intD [.val (eVar 0)]), .val (eC (.int 2147483647))]))
    (sSeq (sSet 2 (eC (.int 1)))
    (sSeq (sFor (iOpA rng1D [.val (eC (.int 4))]) (gVar 3)
    (sSeq (sSet 1 (eOp modD [.val (eOp intD [.val (eOp addD [.val (eOp addD [.val (eOp mulD [.val (eVar 1), .val (eC (.int 48271))]), .val (eC (.int 12345))]), .val (eVar 3)])]), .val (eC (.int 2147483647))]))
    ((sSet 2 (eOp addD [.val (eOp mulD [.val (eVar 2), .val (eC (.int 2147483647))]), .val (eVar 1)])))))
    ((sRet (eVar 2))))))
def den_z_law_spread : List Dt → Fq := runF sg_z_law_spread body_z_law_spread
def sg_z_law_draw : Sg := ⟨[(0, (.ls .fz))], [(0, (.ls .fz))], [(0, (.ls .fz))], .fz, 1, 2, 5⟩
def body_z_law_draw : SM :=
    (sSeq (sIf (cAnd (cOf (eOp leD [.val (eOp ixD [.own 0, .val (eC (.int 2))]), .val (eC (.int 0))])) (cOf (eOp ltD [.val (eOp ixD [.own 0, .val (eC (.int 1))]), .val (eOp lenD [.val (eOp ixD [.own 0, .val (eC (.int 0))])])])))
    (sSeq (sSet 2 (eOp ixD [.val (eOp ixD [.own 0, .val (eC (.int 0))]), .val (eOp ixD [.own 0, .val (eC (.int 1))])]))
    (sSeq (sPut 0 (eC (.int 1)) (eOp addD [.val (eOp ixD [.own 0, .val (eC (.int 1))]), .val (eC (.int 1))]))
    (sSeq (sPut 0 (eC (.int 2)) (eVar 2))
    ((sIf (cOf (eOp ltD [.val (eVar 2), .val (eC (.int 1000000000000000000))]))
    (sPut 0 (eC (.int 2)) (eCall den_z_law_spread [.val (eVar 2)] []))
    sSkip)))))
    sSkip)
    (sSeq (sPut 0 (eC (.int 3)) (eOp addD [.val (eOp ixD [.own 0, .val (eC (.int 3))]), .val (eC (.int 1))]))
    (sSeq (sIf (cOf (eOp leD [.val (eOp ixD [.own 0, .val (eC (.int 2))]), .val (eC (.int 0))]))
    (sSeq (sSet 3 (eOp modD [.val (eOp intD [.val (eOp addD [.val (eOp addD [.val (eOp mulD [.val (eOp ixD [.own 0, .val (eC (.int 4))]), .val (eC (.int 48271))]), .val (eOp mulD [.val (eOp ixD [.own 0, .val (eC (.int 3))]), .val (eC (.int 69621))])]), .val (eC (.int 1))])]), .val (eC (.int 2147483647))]))
    (sSeq (sSet 3 (eOp modD [.val (eOp intD [.val (eOp addD [.val (eOp mulD [.val (eVar 3), .val (eC (.int 16807))]), .val (eOp ixD [.own 0, .val (eC (.int 3))])])]), .val (eC (.int 2147483629))]))
    ((sRet (eOp modD [.val (eOp divD [.val (eVar 3), .val (eC (.int 5))]), .val (eVar 1)])))))
    sSkip)
    (sSeq (sSet 4 (eOp modD [.val (eOp intD [.val (eOp ixD [.own 0, .val (eC (.int 2))])]), .val (eVar 1)]))
    (sSeq (sPut 0 (eC (.int 2)) (eOp divD [.val (eOp ixD [.own 0, .val (eC (.int 2))]), .val (eVar 1)]))
    ((sRet (eVar 4))))))))
def den_z_law_draw : List Dt → Fq := runF sg_z_law_draw body_z_law_draw
def sg_z_law_places_in : Sg := ⟨[(0, (.ls .fz))], [(0, (.ls .fz))], [(0, (.ls .fz))], .fz, 1, 3, 5⟩
def body_z_law_places_in : SM :=
    (sSeq (sSet 3 eDic)
    (sSeq (sFor (iOpA rng1D [.val (eVar 1)]) (gVar 4)
    (sDPut 3 (eCall den_z_law_draw [.own 0, .val (eVar 2)] []) (eC (.bl true))))
    ((sRet (eOp sortedDD [.own 3])))))
def den_z_law_places_in : List Dt → Fq := runF sg_z_law_places_in body_z_law_places_in
def sg_z_law_set_bit : Sg := ⟨[], [], [], .fz, 0, 3, 5⟩
def body_z_law_set_bit : SM :=
    (sSeq (sSet 3 (eOp listD [.val (eVar 0)]))
    (sSeq (sSet 4 (eOp shrD [.val (eC (.int 128)), .val (eOp andD [.val (eVar 1), .val (eC (.int 7))])]))
    (sSeq (sPut 3 (eOp shrD [.val (eVar 1), .val (eC (.int 3))]) (eOp subD [.val (eOp orD [.val (eOp ixD [.own 3, .val (eOp shrD [.val (eVar 1), .val (eC (.int 3))])]), .val (eVar 4)]), .val (eOp mulD [.val (eVar 4), .val (eOp subD [.val (eC (.int 1)), .val (eVar 2)])])]))
    ((sRet (eVar 3))))))
def den_z_law_set_bit : List Dt → Fq := runF sg_z_law_set_bit body_z_law_set_bit
def sg_z_law_or : Sg := ⟨[], [], [], .fz, 0, 2, 2⟩
def body_z_law_or : SM :=
    (sRet (eOp subD [.val (eOp orD [.val (eVar 0), .val (eVar 1)]), .val (eOp andD [.val (eVar 0), .val (eVar 1)])]))
def den_z_law_or : List Dt → Fq := runF sg_z_law_or body_z_law_or
def sg_z_law_check : Sg := ⟨[], [], [], .fz, 0, 1, 5⟩
def body_z_law_check : SM :=
    (sSeq (sSet 1 (eC (.int 65535)))
    (sSeq (sFor (iSeqD (eVar 0)) (gVar 2)
    (sFor (iOpA rng1D [.val (eC (.int 8))]) (gVar 3)
    (sSeq (sSet 4 (eOp andD [.val (eOp shrD [.val (eVar 1), .val (eC (.int 15))]), .val (eC (.int 1))]))
    (sSeq (sSet 1 (eOp andD [.val (eOp shlD [.val (eVar 1), .val (eC (.int 1))]), .val (eC (.int 65535))]))
    ((sIf (cOf (eOp neD [.val (eVar 4), .val (eOp andD [.val (eOp shrD [.val (eVar 2), .val (eOp subD [.val (eC (.int 7)), .val (eVar 3)])]), .val (eC (.int 1))])]))
    (sSet 1 (eCall den_z_law_or [.val (eVar 1), .val (eC (.int 4129))] []))
    sSkip))))))
    ((sRet (eVar 1)))))
def den_z_law_check : List Dt → Fq := runF sg_z_law_check body_z_law_check
def sg_z_law_settings : Sg := ⟨[], [], [], .fz, 0, 2, 6⟩
def body_z_law_settings : SM :=
    (sSeq (sSet 2 (eOp lstD [.val (eOp listD [.val (eVar 0)])]))
    (sSeq (sFor (iSeqD (eVar 1)) (gVar 3)
    (sSeq (sSet 4 (eOp lstD []))
    (sSeq (sFor (iSeqD (eVar 2)) (gVar 5)
    (sSeq (sDo (eMut 4 appD [.val (eCall den_z_law_set_bit [.val (eVar 5), .val (eVar 3), .val (eC (.int 0))] [])]))
    ((sDo (eMut 4 appD [.val (eCall den_z_law_set_bit [.val (eVar 5), .val (eVar 3), .val (eC (.int 1))] [])])))))
    ((sSet 2 (eVar 4))))))
    ((sRet (eVar 2)))))
def den_z_law_settings : List Dt → Fq := runF sg_z_law_settings body_z_law_settings
def sg_z_law_same : Sg := ⟨[], [], [], .fz, 0, 2, 3⟩
def body_z_law_same (rec : List Dt → Fq) : SM :=
    (sSeq (sIf (cOr (cTru [.val (eOp (isiD "tuple") [.val (eVar 1)])]) (cTru [.val (eOp (isiD "list") [.val (eVar 1)])]))
    (sSeq (sIf (cOr (cOf (eOp neD [.val (eOp (isiD "tuple") [.val (eVar 1)]), .val (eOp (isiD "tuple") [.val (eVar 0)])])) (cOf (eOp neD [.val (eOp (isiD "list") [.val (eVar 1)]), .val (eOp (isiD "list") [.val (eVar 0)])])))
    (sRet (eC (.bl false)))
    sSkip)
    (sSeq (sIf (cOf (eOp neD [.val (eOp lenD [.val (eVar 0)]), .val (eOp lenD [.val (eVar 1)])]))
    (sRet (eC (.bl false)))
    sSkip)
    (sSeq (sFor (iOpA rng1D [.val (eOp lenD [.val (eVar 1)])]) (gVar 2)
    (sIf (cNot (cTru [.val (eCall rec [.val (eOp ixD [.val (eVar 0), .val (eVar 2)]), .val (eOp ixD [.val (eVar 1), .val (eVar 2)])] [])]))
    (sRet (eC (.bl false)))
    sSkip))
    ((sRet (eC (.bl true)))))))
    sSkip)
    (sSeq (sIf (cOf (eOp isND [.val (eVar 1), .val (eC .non)]))
    (sRet (eOp isND [.val (eVar 0), .val (eC .non)]))
    sSkip)
    (sSeq (sIf (cTru [.val (eOp (isiD "bool") [.val (eVar 1)])])
    (sRet (eAndV (eOp (isiD "bool") [.val (eVar 0)]) (eOp eqD [.val (eVar 0), .val (eVar 1)])))
    sSkip)
    (sSeq (sIf (cTru [.val (eOp (isiD "int") [.val (eVar 1)])])
    (sRet (eAndV (eOp (isiD "int") [.val (eVar 0)]) (eAndV (eOp notD [.val (eOp (isiD "bool") [.val (eVar 0)])]) (eOp eqD [.val (eVar 0), .val (eVar 1)]))))
    sSkip)
    ((sRet (eAndV (eOp (isiD "str") [.val (eVar 0)]) (eOp eqD [.val (eVar 0), .val (eVar 1)]))))))))
def denN_z_law_same : Nat → List Dt → Fq
  | 0 => fun _ => .stuck
  | n + 1 => runF sg_z_law_same (body_z_law_same (denN_z_law_same n))
def den_z_law_same : List Dt → Fq := denN_z_law_same 8
def sg_Span_init : Sg := ⟨[(0, .ob)], [(0, (.of "kept" (.dc .fz) .ob))], [], .fz, 1, 1, 1⟩
def body_Span_init : SM :=
    (sFldS 0 ["Span"] "kept" eDic)
def den_Span_init : List Dt → Fq := runF sg_Span_init body_Span_init
def sg_with_bit : Sg := ⟨[], [], [], .fz, 0, 3, 6⟩
def body_with_bit : SM :=
    (sSeq (sSet 3 (eOp listD [.val (eVar 0)]))
    (sSeq (sSet 4 (eOp ixD [.val (eC (.tup (k_BIT_WEIGHTS.map .int))), .val (eOp modD [.val (eVar 1), .val (eC (.int 8))])]))
    (sSeq (sSet 5 (eOp modD [.val (eOp divD [.val (eOp ixD [.own 3, .val (eOp divD [.val (eVar 1), .val (eC (.int 8))])]), .val (eVar 4)]), .val (eC (.int 2))]))
    (sSeq (sAugS 3 (eOp divD [.val (eVar 1), .val (eC (.int 8))]) addI (eOp mulD [.val (eOp subD [.val (eVar 2), .val (eVar 5)]), .val (eVar 4)]))
    ((sRet (eVar 3)))))))
def den_with_bit : List Dt → Fq := runF sg_with_bit body_with_bit
def sg_exclusive : Sg := ⟨[], [], [], .fz, 0, 2, 2⟩
def body_exclusive : SM :=
    (sRet (eOp xorD [.val (eVar 0), .val (eVar 1)]))
def den_exclusive : List Dt → Fq := runF sg_exclusive body_exclusive
def sg_Span_reduced_o : Sg := ⟨[(0, (.of "kept" (.dc .fz) .ob))], [(0, (.of "kept" (.dc .fz) .ob))], [(0, (.of "kept" (.dc .fz) .ob))], .fz, 1, 3, 8⟩
def body_Span_reduced_o : SM :=
    (sSeq (sFor (iSeqD (eOp sortedRD [.fld ["Span"] 0 "kept"])) (gVar 3)
    (sIf (cOf (eOp eqD [.val (eOp modD [.val (eOp divD [.val (eVar 1), .val (eOp ixD [.val (eC (.tup (k_POWERS.map .int))), .val (eVar 3)])]), .val (eC (.int 2))]), .val (eC (.int 1))]))
    (sSeq (sUn (eOp dGetD [.fld ["Span"] 0 "kept", .val (eVar 3)]) (gTupD [(gVar 4), (gVar 5)]))
    (sSeq (sSet 1 (eCall den_exclusive [.val (eVar 1), .val (eVar 4)] []))
    (sSeq (sSet 6 (eComp (iSeqD (eVar 2)) [7] (gVar 7) (cOf (eOp notInD [.val (eVar 7), .val (eVar 5)])) (eVar 7)))
    ((sSet 2 (eOp addD [.val (eVar 6), .val (eComp (iSeqD (eVar 5)) [7] (gVar 7) (cOf (eOp notInD [.val (eVar 7), .val (eVar 2)])) (eVar 7))]))))))
    sSkip))
    ((sRet (eOp tupD [.val (eVar 1), .val (eVar 2)]))))
def den_Span_reduced_o : List Dt → Fq := runF sg_Span_reduced_o body_Span_reduced_o
def sg_Span_add : Sg := ⟨[(0, (.of "kept" (.dc .fz) .ob))], [(0, (.of "kept" (.dc .fz) .ob))], [(0, (.of "kept" (.dc .fz) .ob))], .fz, 1, 3, 7⟩
def body_Span_add : SM :=
    (sSeq (sUn (eMethO "Span" "reduced" den_Span_reduced_o 0 [.val (eVar 1), .val (eOp lstD [.val (eVar 2)])] []) (gTupD [(gVar 3), (gVar 4)]))
    ((sIf (cOf (eOp gtD [.val (eVar 3), .val (eC (.int 0))]))
    (sSeq (sSet 5 (eOp maxLD [.val (eComp (iOpA rng1D [.val (eC (.int 16))]) [6] (gVar 6) (cOf (eOp eqD [.val (eOp modD [.val (eOp divD [.val (eVar 3), .val (eOp ixD [.val (eC (.tup (k_POWERS.map .int))), .val (eVar 6)])]), .val (eC (.int 2))]), .val (eC (.int 1))])) (eVar 6))]))
    ((sDPutF ["Span"] 0 "kept" (eVar 5) (eOp tupD [.val (eVar 3), .val (eVar 4)]))))
    sSkip)))
def den_Span_add : List Dt → Fq := runF sg_Span_add body_Span_add
def sg_byte_bits : Sg := ⟨[], [], [], .fz, 0, 1, 2⟩
def body_byte_bits : SM :=
    (sRet (eComp (iSeqD (eC (.tup (k_BIT_WEIGHTS.map .int)))) [1] (gVar 1) cYes (eOp modD [.val (eOp divD [.val (eVar 0), .val (eVar 1)]), .val (eC (.int 2))])))
def den_byte_bits : List Dt → Fq := runF sg_byte_bits body_byte_bits
def sg_step : Sg := ⟨[], [], [], .fz, 0, 2, 4⟩
def body_step : SM :=
    (sSeq (sFor (iSeqD (eCall den_byte_bits [.val (eVar 1)] [])) (gVar 2)
    (sSeq (sSet 3 (eOp divD [.val (eVar 0), .val (eC (.int 32768))]))
    (sSeq (sSet 0 (eOp modD [.val (eOp mulD [.val (eC (.int 2)), .val (eVar 0)]), .val (eC (.int 65536))]))
    ((sIf (cOf (eOp neD [.val (eVar 3), .val (eVar 2)]))
    (sSet 0 (eCall den_exclusive [.val (eVar 0), .val (eC (.int 4129))] []))
    sSkip)))))
    ((sRet (eVar 0))))
def den_step : List Dt → Fq := runF sg_step body_step
def sg_crc : Sg := ⟨[], [], [], .fz, 0, 1, 3⟩
def body_crc : SM :=
    (sSeq (sSet 1 (eC (.int 65535)))
    (sSeq (sFor (iSeqD (eVar 0)) (gVar 2)
    (sSet 1 (eCall den_step [.val (eVar 1), .val (eVar 2)] [])))
    ((sRet (eVar 1)))))
def den_crc : List Dt → Fq := runF sg_crc body_crc
def sg_crc_change : Sg := ⟨[], [], [], .fz, 0, 2, 3⟩
def body_crc_change : SM :=
    (sSeq (sSet 2 (eOp mulD [.val (eOp lstD [.val (eC (.int 0))]), .val (eVar 0)]))
    ((sRet (eCall den_exclusive [.val (eCall den_crc [.val (eVar 2)] []), .val (eCall den_crc [.val (eCall den_with_bit [.val (eVar 2), .val (eVar 1), .val (eC (.int 1))] [])] [])] []))))
def den_crc_change : List Dt → Fq := runF sg_crc_change body_crc_change
def sg_span_of : Sg := ⟨[], [], [], .fz, 0, 2, 5⟩
def body_span_of : SM :=
    (sSeq (sSet 2 (eOp listD [.val (eVar 0)]))
    (sSeq (sSet 3 (eMake "Span" den_Span_init [] []))
    (sSeq (sFor (iSeqD (eVar 1)) (gVar 4)
    (sSeq (sSet 2 (eCall den_with_bit [.val (eVar 2), .val (eVar 4), .val (eC (.int 0))] []))
    ((sDo (eMethO "Span" "add" den_Span_add 3 [.val (eCall den_crc_change [.val (eOp lenD [.val (eVar 0)]), .val (eVar 4)] []), .val (eVar 4)] [])))))
    ((sRet (eOp tupD [.val (eVar 2), .val (eVar 3)]))))))
def den_span_of : List Dt → Fq := runF sg_span_of body_span_of
def sg_Span_reduced : Sg := ⟨[], [], [], .fz, 0, 3, 8⟩
def body_Span_reduced : SM :=
    (sSeq (sFor (iSeqD (eOp sortedRD [.val (eFld ["Span"] "kept" (eVar 0))])) (gVar 3)
    (sIf (cOf (eOp eqD [.val (eOp modD [.val (eOp divD [.val (eVar 1), .val (eOp ixD [.val (eC (.tup (k_POWERS.map .int))), .val (eVar 3)])]), .val (eC (.int 2))]), .val (eC (.int 1))]))
    (sSeq (sUn (eOp dGetD [.val (eFld ["Span"] "kept" (eVar 0)), .val (eVar 3)]) (gTupD [(gVar 4), (gVar 5)]))
    (sSeq (sSet 1 (eCall den_exclusive [.val (eVar 1), .val (eVar 4)] []))
    (sSeq (sSet 6 (eComp (iSeqD (eVar 2)) [7] (gVar 7) (cOf (eOp notInD [.val (eVar 7), .val (eVar 5)])) (eVar 7)))
    ((sSet 2 (eOp addD [.val (eVar 6), .val (eComp (iSeqD (eVar 5)) [7] (gVar 7) (cOf (eOp notInD [.val (eVar 7), .val (eVar 2)])) (eVar 7))]))))))
    sSkip))
    ((sRet (eOp tupD [.val (eVar 1), .val (eVar 2)]))))
def den_Span_reduced : List Dt → Fq := runF sg_Span_reduced body_Span_reduced
def sg_demand_unknown : Sg := ⟨[], [], [], .fz, 0, 2, 4⟩
def body_demand_unknown : SM :=
    (sSeq (sIf (cOr (cOf (eOp gtD [.val (eOp lenD [.val (eVar 1)]), .val (eC (.int 24))])) (cNot (cTru [.val (eOp allD [.val (eComp (iSeqD (eVar 1)) [2] (gVar 2) cYes (eChain leD ltD (eC (.int 0)) (eVar 2) (eOp mulD [.val (eC (.int 8)), .val (eOp lenD [.val (eVar 0)])])))])])))
    (sRaise "InvalidUnknowns")
    sSkip)
    ((sIf (cNot (cTru [.val (eOp allD [.val (eComp (iOpA rng2D [.val (eC (.int 1)), .val (eOp lenD [.val (eVar 1)])]) [3] (gVar 3) cYes (eOp ltD [.val (eOp ixD [.val (eVar 1), .val (eOp subD [.val (eVar 3), .val (eC (.int 1))])]), .val (eOp ixD [.val (eVar 1), .val (eVar 3)])]))])]))
    (sRaise "InvalidUnknowns")
    sSkip)))
def den_demand_unknown : List Dt → Fq := runF sg_demand_unknown body_demand_unknown
def sg_solution_count : Sg := ⟨[], [], [], .fz, 0, 3, 7⟩
def body_solution_count : SM :=
    (sSeq (sDo (eCall den_demand_unknown [.val (eVar 0), .val (eVar 1)] []))
    (sSeq (sUn (eCall den_span_of [.val (eVar 0), .val (eVar 1)] []) (gTupD [(gVar 3), (gVar 4)]))
    (sSeq (sUn (eMethV "Span" "reduced" den_Span_reduced (eVar 4) [.val (eCall den_exclusive [.val (eCall den_crc [.val (eVar 3)] []), .val (eVar 2)] []), .val (eOp lstD [])] []) (gTupD [(gVar 5), (gVar 6)]))
    (sSeq (sIf (cOf (eOp gtD [.val (eVar 5), .val (eC (.int 0))]))
    (sRet (eC (.int 0)))
    sSkip)
    ((sRet (eOp ixD [.val (eC (.tup (k_POWERS.map .int))), .val (eOp subD [.val (eOp lenD [.val (eVar 1)]), .val (eOp lenDD [.val (eFld ["Span"] "kept" (eVar 4))])])])))))))
def den_solution_count : List Dt → Fq := runF sg_solution_count body_solution_count
def sg_solution : Sg := ⟨[], [], [], .fz, 0, 3, 8⟩
def body_solution : SM :=
    (sSeq (sIf (cOf (eOp neD [.val (eCall den_solution_count [.val (eVar 0), .val (eVar 1), .val (eVar 2)] []), .val (eC (.int 1))]))
    (sRet (eC .non))
    sSkip)
    (sSeq (sUn (eCall den_span_of [.val (eVar 0), .val (eVar 1)] []) (gTupD [(gVar 3), (gVar 4)]))
    (sSeq (sUn (eMethV "Span" "reduced" den_Span_reduced (eVar 4) [.val (eCall den_exclusive [.val (eCall den_crc [.val (eVar 3)] []), .val (eVar 2)] []), .val (eOp lstD [])] []) (gTupD [(gVar 5), (gVar 6)]))
    (sSeq (sFor (iSeqD (eVar 6)) (gVar 7)
    (sSet 3 (eCall den_with_bit [.val (eVar 3), .val (eVar 7), .val (eC (.int 1))] [])))
    ((sRet (eVar 3)))))))
def den_solution : List Dt → Fq := runF sg_solution body_solution
def sg_law : Sg := ⟨[], [], [], .fz, 0, 1, 15⟩
def body_law : SM :=
    (sSeq (sSet 1 (eCall den_z_law_pool [.val (eVar 0)] []))
    (sSeq (sSet 2 (eComp (iOpA rng1D [.val (eOp addD [.val (eC (.int 1)), .val (eCall den_z_law_draw [.own 1, .val (eC (.int 6))] [])])]) [13] (gVar 13) cYes (eCall den_z_law_draw [.own 1, .val (eC (.int 256))] [])))
    (sSeq (sSet 3 (eCall den_z_law_places_in [.own 1, .val (eC (.int 6)), .val (eOp mulD [.val (eC (.int 8)), .val (eOp lenD [.val (eVar 2)])])] []))
    (sSeq (sSet 4 (eOp ixD [.val (eOp lstD [.val (eCall den_z_law_check [.val (eVar 2)] []), .val (eCall den_z_law_draw [.own 1, .val (eC (.int 65536))] [])]), .val (eOp divD [.val (eCall den_z_law_draw [.own 1, .val (eC (.int 5))] []), .val (eC (.int 4))])]))
    (sSeq (sSet 5 (eOp listD [.val (eVar 2)]))
    (sSeq (sFor (iSeqD (eVar 3)) (gVar 6)
    (sSet 5 (eCall den_z_law_set_bit [.val (eVar 5), .val (eVar 6), .val (eCall den_z_law_draw [.own 1, .val (eC (.int 2))] [])] [])))
    (sSeq (sSet 7 (eOp lstD [.val (eOp listD [.val (eVar 5)]), .val (eOp listD [.val (eVar 3)])]))
    (sSeq (sSet 8 (eComp (iSeqD (eCall den_z_law_settings [.val (eVar 5), .val (eVar 3)] [])) [14] (gVar 14) (cOf (eOp eqD [.val (eCall den_z_law_check [.val (eVar 14)] []), .val (eVar 4)])) (eVar 14)))
    (sSeq (sSet 9 (eIf (cOf (eOp eqD [.val (eOp lenD [.val (eVar 8)]), .val (eC (.int 1))])) (eOp ixD [.val (eVar 8), .val (eC (.int 0))]) (eC .non)))
    (sSeq (sIf (cOr (cNot (cTru [.val (eCall den_z_law_same [.val (eCall den_solution [.val (eVar 5), .val (eVar 3), .val (eVar 4)] []), .val (eVar 9)] [])])) (cOf (eOp neD [.val (eOp lstD [.val (eVar 5), .val (eVar 3)]), .val (eVar 7)])))
    (sRet (eC (.bl false)))
    sSkip)
    (sSeq (sSet 10 (eOp ixD [.val (eOp lstD [.val (eOp lstD [.val (eC (.int 3)), .val (eC (.int 2))]), .val (eOp lstD [.val (eC (.int 1)), .val (eC (.int 1))]), .val (eOp lstD [.val (eOp negD [.val (eC (.int 1))])]), .val (eOp lstD [.val (eOp mulD [.val (eC (.int 8)), .val (eOp lenD [.val (eVar 2)])])]), .val (eOp lstD [.val (eC (.int 0)), .val (eOp powD [.val (eC (.int 10)), .val (eC (.int 9))])]), .val (eRgL1 (eC (.int 25)))]), .val (eCall den_z_law_draw [.own 1, .val (eC (.int 6))] [])]))
    (sSeq (sIf (cOf (eOp eqD [.val (eOp lenD [.val (eVar 10)]), .val (eC (.int 25))]))
    (sSet 5 (eOp lstD [.val (eC (.int 1)), .val (eC (.int 2)), .val (eC (.int 3)), .val (eC (.int 4))]))
    sSkip)
    (sSeq (sFor (iOpA rng1D [.val (eC (.int 2))]) (gVar 11)
    (sTry (sSeq (sIf (cOf (eOp eqD [.val (eVar 11), .val (eC (.int 0))]))
    (sDo (eCall den_solution [.val (eVar 5), .val (eVar 10), .val (eC (.int 1))] []))
    (sDo (eCall den_solution_count [.val (eVar 5), .val (eVar 10), .val (eC (.int 1))] [])))
    ((sRet (eC (.bl false))))) [("InvalidUnknowns", fun x => sAs 12 (sIf (cTru [.val (eIsX errs x "InvalidPlan")])
    (sRet (eC (.bl false)))
    sSkip))]))
    ((sRet (eC (.bl true)))))))))))))))))
def den_law : List Dt → Fq := runF sg_law body_law
local macro_rules | `(tactic| simp? [$xs,*]) => `(tactic| simp -implicitDefEqProofs (disch := first | omega | (simp; done) | (simp; omega)) [w_seq, w_skip, w_th1, w_th2, w_th3, w_th4, w_th5, w_set, w_if, w_ret, w_do, w_brk, w_cont, w_raise, w_go1, w_go2, w_goi, w_bd1, w_bd2, w_bdi, w_tn1, w_tn2, w_tn3, w_tn4, w_tn5, w_gv0, w_gvs, w_gvn, w_var, w_c, w_ag0, w_ag1, w_ag2, w_op, w_eif, w_cof, w_eof, w_and, w_or, w_not, w_tru, w_andv, w_orv, w_for, w_iop, w_iseq, w_call, w_po0, w_po1, w_po2, w_put, w_mut, w_lim, w_comp, w_aug, w_slv, w_pt0, w_pt1, w_yes, w_gvar, w_try, w_as, w_su, w_isx, w_rid1, w_rid2, w_run, w_end1, w_end2, w_end3, w_outs0, w_outs1, w_mul, w_rep, w_div, w_mod, w_shl, w_shr, w_lst, w_tup, w_cat, w_catS, w_catD, w_repD, w_rg1, w_rg2, w_app, w_ext, w_ins, w_toN, w_eqI, w_eqS, w_eqL, w_ix0, w_ix1, w_ix2, w_ix3, w_ix4, w_ix5, w_iN0, w_iN1, w_iN2, w_iN3, w_iN4, w_rgl, w_addI, w_addI2, w_subI, w_subI2, w_andI, w_orI, w_xorI, w_negI, w_ltI, w_leI, w_gtI, w_geI, w_eqD, w_neD, w_isN1, w_isN2, w_isN3, w_isN4, w_isN5, w_isN6, w_isN7, w_isN8, w_isN9, w_ixL, w_ixR, w_ixT, w_lenL, w_lenR, w_lenT, w_lenS, w_listL, w_listR, w_listT, w_tupleL, w_tupleR, w_tupleT, w_intI, w_intB, w_max2, w_min2, w_sumL, w_notB, w_isi, w_ty1, w_ty2, w_ty3, w_ty4, w_ty5, w_ty6, w_ty7, w_tr1, w_tr2, w_tr3, w_tr5, w_tr6, w_tr7, w_sq1, w_sq2, w_sq3, w_sq4, w_zip, w_slL, w_slR, w_len63, w_nat, w_zipl, w_pow, w_make, w_fldS, w_fld, w_meth, w_un, w_gt2, w_chLe, w_cLe, w_atI, w_at2, w_at3, w_at4, w_at5, w_at6, w_at7, w_at8, w_lku, w_drop0, w_cutLH, w_cutN, w_cutM1, w_atN, w_catT, w_gt3, w_eeq, w_ng1, w_ng2, w_iso, w_slU, w_mulI, w_bm, w_isT, w_isL, w_isLr, w_isS, w_keepC, w_keepE, w_slPv, w_slPo, w_glst, w_gal0, w_gal1, w_gt4, w_slo, w_chT, w_chLL, w_chTL, w_chTT, w_chT1, w_chT0, w_raiseA, w_xf1, u_sub_InvalidUnknowns_InvalidPlan, u_sub_InvalidUnknowns_InvalidUnknowns, u_errs_InvalidUnknowns, u_mem_InvalidUnknowns, u_ne_add_kept, u_nb_add_kept, u_ne_add_reduced, u_nb_add_reduced, u_ne_kept_add, u_nb_kept_add, u_ne_kept_reduced, u_nb_kept_reduced, u_ne_reduced_add, u_nb_reduced_add, u_ne_reduced_kept, u_nb_reduced_kept, $xs,*])
local macro_rules | `(tactic| simp_all? [$xs,*]) => `(tactic| (conv => (arg 1; simp -implicitDefEqProofs (disch := first | omega | (simp; done) | (simp; omega)) [w_seq, w_skip, w_th1, w_th2, w_th3, w_th4, w_th5, w_set, w_if, w_ret, w_do, w_brk, w_cont, w_raise, w_go1, w_go2, w_goi, w_bd1, w_bd2, w_bdi, w_tn1, w_tn2, w_tn3, w_tn4, w_tn5, w_gv0, w_gvs, w_gvn, w_var, w_c, w_ag0, w_ag1, w_ag2, w_op, w_eif, w_cof, w_eof, w_and, w_or, w_not, w_tru, w_andv, w_orv, w_for, w_iop, w_iseq, w_call, w_po0, w_po1, w_po2, w_put, w_mut, w_lim, w_comp, w_aug, w_slv, w_pt0, w_pt1, w_yes, w_gvar, w_try, w_as, w_su, w_isx, w_rid1, w_rid2, w_run, w_end1, w_end2, w_end3, w_outs0, w_outs1, w_mul, w_rep, w_div, w_mod, w_shl, w_shr, w_lst, w_tup, w_cat, w_catS, w_catD, w_repD, w_rg1, w_rg2, w_app, w_ext, w_ins, w_toN, w_eqI, w_eqS, w_eqL, w_ix0, w_ix1, w_ix2, w_ix3, w_ix4, w_ix5, w_iN0, w_iN1, w_iN2, w_iN3, w_iN4, w_rgl, w_addI, w_addI2, w_subI, w_subI2, w_andI, w_orI, w_xorI, w_negI, w_ltI, w_leI, w_gtI, w_geI, w_eqD, w_neD, w_isN1, w_isN2, w_isN3, w_isN4, w_isN5, w_isN6, w_isN7, w_isN8, w_isN9, w_ixL, w_ixR, w_ixT, w_lenL, w_lenR, w_lenT, w_lenS, w_listL, w_listR, w_listT, w_tupleL, w_tupleR, w_tupleT, w_intI, w_intB, w_max2, w_min2, w_sumL, w_notB, w_isi, w_ty1, w_ty2, w_ty3, w_ty4, w_ty5, w_ty6, w_ty7, w_tr1, w_tr2, w_tr3, w_tr5, w_tr6, w_tr7, w_sq1, w_sq2, w_sq3, w_sq4, w_zip, w_slL, w_slR, w_len63, w_nat, w_zipl, w_pow, w_make, w_fldS, w_fld, w_meth, w_un, w_gt2, w_chLe, w_cLe, w_atI, w_at2, w_at3, w_at4, w_at5, w_at6, w_at7, w_at8, w_lku, w_drop0, w_cutLH, w_cutN, w_cutM1, w_atN, w_catT, w_gt3, w_eeq, w_ng1, w_ng2, w_iso, w_slU, w_mulI, w_bm, w_isT, w_isL, w_isLr, w_isS, w_keepC, w_keepE, w_slPv, w_slPo, w_glst, w_gal0, w_gal1, w_gt4, w_slo, w_chT, w_chLL, w_chTL, w_chTT, w_chT1, w_chT0, w_raiseA, w_xf1, u_sub_InvalidUnknowns_InvalidPlan, u_sub_InvalidUnknowns_InvalidUnknowns, u_errs_InvalidUnknowns, u_mem_InvalidUnknowns, u_ne_add_kept, u_nb_add_kept, u_ne_add_reduced, u_nb_add_reduced, u_ne_kept_add, u_nb_kept_add, u_ne_kept_reduced, u_nb_kept_reduced, u_ne_reduced_add, u_nb_reduced_add, u_ne_reduced_kept, u_nb_reduced_kept, $xs,*])))
/-! ### the pool of drawn numbers -/
structure Pool where
  l : List Int
  i : Nat
  cur : Int
  cnt : Int
  salt : Int
def pD (p : Pool) : Dt := .lst [.lst (p.l.map .int), .int (p.i : Int), .int p.cur, .int p.cnt, .int p.salt]
theorem spread_ok (c : Int) : ∃ v, den_z_law_spread [.int c] = .ok (.int v) [] := by
  refine wq_of (Q := fun q => ∃ v, q = .ok (.int v) []) (wq_run rfl ?_)
  unfold body_z_law_spread
  simp_all? []
  refine wp_then (wp_loopE (fun (x : Int × Int × Option Dt) => [some (.int c), some (.int x.1), some (.int x.2.1), x.2.2]) (_, _, _) rfl (fun x hx a => ?_) fun a => ?_)
  · obtain ⟨k, _, rfl⟩ := rngL_mem hx
    refine ⟨_, rfl, ?_⟩
    simp_all? []
    exact wp_nx ⟨(_, _, _), rfl⟩
  · simp? []
    exact wp_rt ⟨_, rfl⟩
theorem draw_ok (p : Pool) {m : Int} (h0 : 0 < m) (h1 : m < 4611686018427387904) : ∃ v p', den_z_law_draw [pD p, .int m] = .ok (.int v) [some (pD p')] ∧ 0 ≤ v ∧ v < m := by
  refine wq_of (Q := fun q => ∃ v p', q = .ok (.int v) [some (pD p')] ∧ 0 ≤ v ∧ v < m) (wq_run rfl ?_)
  unfold body_z_law_draw
  refine wp_seq (wp_imp (Q := fun r => ∃ (p : Pool) (x : Option Dt), r = .nx [some (pD p), some (.int m), x, none, none]) ?_ ?_)
  · by_cases c1 : p.cur ≤ 0
    · by_cases c2 : p.i < p.l.length
      · obtain ⟨v, hv⟩ := spread_ok p.l[p.i]
        have c3 := atI_int c2
        have c4 : (p.i : Int) < p.l.length := by omega
        by_cases c5 : p.l[p.i] < 1000000000000000000
        · simp_all? [pD, sg_z_law_draw, c1, c4, c3, c5, hv]
          exact wp_nx ⟨Pool.mk p.l (p.i + 1) v p.cnt p.salt, _, rfl⟩
        · simp_all? [pD, sg_z_law_draw, c1, c4, c3, c5]
          exact wp_nx ⟨Pool.mk p.l (p.i + 1) _ p.cnt p.salt, _, rfl⟩
      · have c4 : ¬ (p.i : Int) < p.l.length := by omega
        simp_all? [pD, sg_z_law_draw, c1, c4]
        exact wp_nx ⟨p, _, rfl⟩
    · simp_all? [pD, sg_z_law_draw, c1]
      exact wp_nx ⟨p, _, rfl⟩
  · rintro _ ⟨p, x, rfl⟩
    by_cases c1 : p.cur ≤ 0
    · simp_all? [pD, sg_z_law_draw, c1, sg_z_law_draw]
      exact wq_rt ⟨_, Pool.mk p.l p.i p.cur (p.cnt + 1) p.salt, rfl, Int.emod_nonneg _ (by omega), Int.emod_lt_of_pos _ h0⟩
    · simp_all? [pD, sg_z_law_draw, c1, sg_z_law_draw]
      exact wq_rt ⟨_, Pool.mk p.l p.i (p.cur / m) (p.cnt + 1) p.salt, rfl, Int.emod_nonneg _ (by omega), Int.emod_lt_of_pos _ h0⟩
theorem salt_ok (l : List Int) : ∀ (s : Int) (x : Dt) (o : Option Dt), ∃ s' o', sLoop (gVar 2) (sSet 1 (eOp modD [.val (eOp intD [.val (eOp addD [.val (eOp mulD [.val (eVar 1), .val (eC (.int 31))]), .val (eVar 2)])]), .val (eC (.int 1000003))])) (l.map .int) [some x, some (.int s), o] = .nx [some x, some (.int s'), o'] := by
  induction l with
  | nil => intro s x o; exact ⟨s, o, rfl⟩
  | cons a l ih =>
    intro s x o
    obtain ⟨s', o', h⟩ := ih ((s * 31 + a) % 1000003) x (some (.int a))
    refine ⟨s', o', ?_⟩
    rw [← h]; simp only [List.map_cons, sLoop]; simp? []
theorem pool_ok (ns : List Int) (_h : ns.length ≤ 63) : ∃ p, den_z_law_pool [.rol (ns.map .int)] = .ok (pD p) [] := by
  refine wq_of (Q := fun q => ∃ p, q = .ok (pD p) []) (wq_run rfl ?_)
  unfold body_z_law_pool
  obtain ⟨s', o', e⟩ := salt_ok (ns.take 63) 7 (.rol (ns.map .int)) none
  rw [List.map_take] at e
  simp_all? [e, sg_z_law_pool]
  exact wp_rt ⟨⟨ns, 0, 0, 0, s'⟩, rfl⟩
/-- a list of drawn numbers -/
theorem draws_comp {i j : Nat} {m : Int} {ρ : Env} (hi : i < ρ.length) (hj : j < ρ.length) (ne : i ≠ j) (h0 : 0 < m) (h1 : m < 4611686018427387904) {p : Pool} (hp : gv ρ j = some (pD p)) (xs : List Dt) :
    ∃ (l : List Int) (p' : Pool), compL [i] (gVar i) cYes (eCall den_z_law_draw [.own j, .val (eC (.int m))] []) xs ρ = .ok (l.map .int) (ρ.set j (some (pD p'))) ∧ l.length = xs.length ∧ ∀ v ∈ l, 0 ≤ v ∧ v < m := by
  have e0 : ρ = ρ.set j (some (pD p)) := by rw [← hp, set_gv hj]
  obtain ⟨ds, p', e, hl, hr⟩ := comp_st (vs := [i]) (g := gVar i) (e := eCall den_z_law_draw [.own j, .val (eC (.int m))] []) (fun p => ρ.set j (some (pD p))) (fun d => ∃ v, d = .int v ∧ 0 ≤ v ∧ v < m) xs (fun a x hx => by
    obtain ⟨v, p', e, v0, v1⟩ := draw_ok a h0 h1
    have g1 : ∀ z y, gv ((ρ.set j (some z)).set i (some y)) j = some z := fun z y => by
      unfold gv; rw [List.getElem?_set_ne ne, List.getElem?_set_self hj]; rfl
    refine ⟨(ρ.set j (some (pD a))).set i (some x), .int v, (ρ.set j (some (pD p'))).set i (some x), p', by show some (((ρ.set j (some (pD a))).set i none).set i (some x)) = _; rw [List.set_set], ?_, ?_, v, rfl, v0, v1⟩
    · simp? [g1, e]
      rw [List.set_comm _ _ ne, List.set_set]
    · show ((ρ.set j (some (pD p'))).set i (some x)).set i (gv (ρ.set j (some (pD a))) i) = _
      have g2 : gv (ρ.set j (some (pD a))) i = gv (ρ.set j (some (pD p'))) i := by unfold gv; rw [List.getElem?_set_ne (Ne.symm ne), List.getElem?_set_ne (Ne.symm ne)]
      rw [List.set_set, g2, set_gv (by rw [List.length_set]; exact hi)]) p
  obtain ⟨l, rfl, h3, h4⟩ := ints_of hr
  exact ⟨l, p', by rw [← e0] at e; exact e, by rw [h3, hl], h4⟩
/-! ### draws as functions -/
noncomputable def drawV (p : Pool) (m : Int) : Int := if h : 0 < m ∧ m < 4611686018427387904 then Classical.choose (draw_ok p h.1 h.2) else 0
noncomputable def drawP (p : Pool) (m : Int) : Pool := if h : 0 < m ∧ m < 4611686018427387904 then Classical.choose (Classical.choose_spec (draw_ok p h.1 h.2)) else p
theorem draw_eq {p : Pool} {m : Int} (h : 0 < m ∧ m < 4611686018427387904) : den_z_law_draw [pD p, .int m] = .ok (.int (drawV p m)) [some (pD (drawP p m))] := by
  unfold drawV drawP; rw [dif_pos h, dif_pos h]; exact (Classical.choose_spec (Classical.choose_spec (draw_ok p h.1 h.2))).1
theorem draw_bd (p : Pool) {m : Int} (h : 0 < m) : 0 ≤ drawV p m ∧ drawV p m < m := by
  unfold drawV
  split
  · rename_i h'; exact (Classical.choose_spec (Classical.choose_spec (draw_ok p h'.1 h'.2))).2
  · exact ⟨Int.le_refl 0, h⟩
noncomputable def drawsN (p : Pool) (m : Int) : Nat → List Int × Pool
  | 0 => ([], p)
  | n + 1 => (drawV p m :: (drawsN (drawP p m) m n).1, (drawsN (drawP p m) m n).2)
noncomputable def dsV (p : Pool) (m : Int) (n : Nat) : List Int := (drawsN p m n).1
noncomputable def dsP (p : Pool) (m : Int) (n : Nat) : Pool := (drawsN p m n).2
@[simp] theorem w_dsl {p : Pool} {m : Int} {n : Nat} : (dsV p m n).length = n := by
  unfold dsV
  induction n generalizing p with
  | zero => rfl
  | succ n ih => simp only [drawsN, List.length_cons, ih]
theorem ds_bd (p : Pool) {m : Int} (h : 0 < m) (n : Nat) : ∀ v ∈ dsV p m n, 0 ≤ v ∧ v < m := by
  unfold dsV
  induction n generalizing p with
  | zero => intro v hv; exact (List.not_mem_nil hv).elim
  | succ n ih =>
    intro v hv
    rcases List.mem_cons.mp hv with rfl | h2
    · exact draw_bd p h
    · exact ih _ v h2
theorem comp_drawE {i j : Nat} {m : Int} {ρ : Env} (hi : i < ρ.length) (hj : j < ρ.length) (ne : i ≠ j) (h : 0 < m ∧ m < 4611686018427387904) (xs : List Dt) : ∀ p : Pool,
    compL [i] (gVar i) cYes (eCall den_z_law_draw [.own j, .val (eC (.int m))] []) xs (ρ.set j (some (pD p))) = .ok ((dsV p m xs.length).map .int) (ρ.set j (some (pD (dsP p m xs.length)))) := by
  induction xs with
  | nil => intro p; rfl
  | cons x r ih =>
    intro p
    have g1 : ∀ z y, gv ((ρ.set j (some z)).set i (some y)) j = some z := fun z y => by
      unfold gv; rw [List.getElem?_set_ne ne, List.getElem?_set_self hj]; rfl
    have e1 : (wipeE (ρ.set j (some (pD p))) [i]).set i (some x) = (ρ.set j (some (pD p))).set i (some x) := by show ((ρ.set j _).set i none).set i _ = _; rw [List.set_set]
    have e2 : eCall den_z_law_draw [.own j, .val (eC (.int m))] [] ((ρ.set j (some (pD p))).set i (some x)) = .ok (.int (drawV p m)) ((ρ.set j (some (pD (drawP p m)))).set i (some x)) := by
      simp? [g1, draw_eq, h]
      rw [List.set_comm _ _ ne, List.set_set]
    have e3 : backE (ρ.set j (some (pD p))) ((ρ.set j (some (pD (drawP p m)))).set i (some x)) [i] = ρ.set j (some (pD (drawP p m))) := by
      show ((ρ.set j (some (pD (drawP p m)))).set i (some x)).set i (gv (ρ.set j (some (pD p))) i) = _
      have g2 : gv (ρ.set j (some (pD p))) i = gv (ρ.set j (some (pD (drawP p m)))) i := by unfold gv; rw [List.getElem?_set_ne (Ne.symm ne), List.getElem?_set_ne (Ne.symm ne)]
      rw [List.set_set, g2, set_gv (by rw [List.length_set]; exact hi)]
    simp only [compL, gVar, e1, cYes, e2, e3, ih (drawP p m), Er.bind]
    rfl
theorem x_cd0 {i : Nat} {m : Int} {ρ : Env} {p : Pool} {xs : List Dt} (hi : 0 < i ∧ i < ρ.length + 1) (h : 0 < m ∧ m < 4611686018427387904) :
    compL [i] (gVar i) cYes (eCall den_z_law_draw [.own 0, .val (eC (.int m))] []) xs (some (pD p) :: ρ) = .ok ((dsV p m xs.length).map .int) (some (pD (dsP p m xs.length)) :: ρ) :=
  comp_drawE (ρ := some (pD p) :: ρ) (j := 0) (by simp; omega) (by simp) (by omega) h xs p
theorem x_cd1 {i : Nat} {m : Int} {a : Option Dt} {ρ : Env} {p : Pool} {xs : List Dt} (hi : 1 < i ∧ i < ρ.length + 2) (h : 0 < m ∧ m < 4611686018427387904) :
    compL [i] (gVar i) cYes (eCall den_z_law_draw [.own 1, .val (eC (.int m))] []) xs (a :: some (pD p) :: ρ) = .ok ((dsV p m xs.length).map .int) (a :: some (pD (dsP p m xs.length)) :: ρ) :=
  comp_drawE (ρ := a :: some (pD p) :: ρ) (j := 1) (by simp; omega) (by simp) (by omega) h xs p
noncomputable def poolV (ns : List Int) : Pool := if h : ns.length ≤ 63 then Classical.choose (pool_ok ns h) else ⟨[], 0, 0, 0, 0⟩
theorem pool_eq {ns : List Int} (h : ns.length ≤ 63) : den_z_law_pool [.rol (ns.map .int)] = .ok (pD (poolV ns)) [] := by
  unfold poolV; rw [dif_pos h]; exact Classical.choose_spec (pool_ok ns h)
/-! ### equal data are the same -/
theorem same_non (rec : List Dt → Fq) : runF sg_z_law_same (body_z_law_same rec) [.non, .non] = .ok (.bl true) [] := by
  refine wq_of (Q := fun q => q = .ok (.bl true) []) (wq_run rfl ?_)
  unfold body_z_law_same
  simp_all? [sg_z_law_same, subT]; exact wq_rt rfl
theorem same_bl (rec : List Dt → Fq) (b : Bool) : runF sg_z_law_same (body_z_law_same rec) [.bl b, .bl b] = .ok (.bl true) [] := by
  refine wq_of (Q := fun q => q = .ok (.bl true) []) (wq_run rfl ?_)
  unfold body_z_law_same
  simp_all? [sg_z_law_same, subT]; exact wq_rt rfl
theorem same_int (rec : List Dt → Fq) (b : Int) : runF sg_z_law_same (body_z_law_same rec) [.int b, .int b] = .ok (.bl true) [] := by
  refine wq_of (Q := fun q => q = .ok (.bl true) []) (wq_run rfl ?_)
  unfold body_z_law_same
  simp_all? [sg_z_law_same, subT]; exact wq_rt rfl
theorem same_str (rec : List Dt → Fq) (b : Str) : runF sg_z_law_same (body_z_law_same rec) [.str b, .str b] = .ok (.bl true) [] := by
  refine wq_of (Q := fun q => q = .ok (.bl true) []) (wq_run rfl ?_)
  unfold body_z_law_same
  simp_all? [sg_z_law_same, subT]; exact wq_rt rfl
theorem same_lst (rec : List Dt → Fq) (l : List Dt) (hl : l.length ≤ 16777216) (h : ∀ x ∈ l, rec [x, x] = .ok (.bl true) []) : runF sg_z_law_same (body_z_law_same rec) [.lst l, .lst l] = .ok (.bl true) [] := by
  refine wq_of (Q := fun q => q = .ok (.bl true) []) (wq_run rfl ?_)
  unfold body_z_law_same
  simp_all? [sg_z_law_same, subT]
  refine wp_then (wp_then (wp_loopE (fun (o : Option Dt) => [some (.lst l), some (.lst l), o]) none rfl (fun x hx o => ?_) fun o => ?_))
  · obtain ⟨k, hk, rfl⟩ := rngL_mem hx
    have hk : k < l.length := by simpa using hk
    have e := atI_nat (List.getElem?_eq_getElem hk)
    refine ⟨_, rfl, ?_⟩
    simp_all? [e, h _ (List.getElem_mem hk)]
    exact wp_nx ⟨_, rfl⟩
  · simp_all? []
    refine wp_rt ?_
    simp_all? []
    exact wq_rt rfl
theorem same_tup (rec : List Dt → Fq) (l : List Dt) (hl : l.length ≤ 16777216) (h : ∀ x ∈ l, rec [x, x] = .ok (.bl true) []) : runF sg_z_law_same (body_z_law_same rec) [.tup l, .tup l] = .ok (.bl true) [] := by
  refine wq_of (Q := fun q => q = .ok (.bl true) []) (wq_run rfl ?_)
  unfold body_z_law_same
  simp_all? [sg_z_law_same, subT]
  refine wp_then (wp_then (wp_loopE (fun (o : Option Dt) => [some (.tup l), some (.tup l), o]) none rfl (fun x hx o => ?_) fun o => ?_))
  · obtain ⟨k, hk, rfl⟩ := rngL_mem hx
    have hk : k < l.length := by simpa using hk
    have e := atI_nat (List.getElem?_eq_getElem hk)
    refine ⟨_, rfl, ?_⟩
    simp_all? [e, h _ (List.getElem_mem hk)]
    exact wp_nx ⟨_, rfl⟩
  · simp_all? []
    refine wp_rt ?_
    simp_all? []
    exact wq_rt rfl
theorem sameN_ok : ∀ (n : Nat) (d : Dt), okD n d → denN_z_law_same (n + 1) [d, d] = .ok (.bl true) [] := by
  intro n
  induction n with
  | zero =>
    intro d h
    cases d with
    | non => exact same_non _
    | bl b => exact same_bl _ b
    | int b => exact same_int _ b
    | str b => exact same_str _ b
    | _ => exact False.elim h
  | succ n ih =>
    intro d h
    cases d with
    | non => exact same_non _
    | bl b => exact same_bl _ b
    | int b => exact same_int _ b
    | str b => exact same_str _ b
    | lst l => exact same_lst _ l h.1 fun x hx => ih x (h.2 x hx)
    | tup l => exact same_tup _ l h.1 fun x hx => ih x (h.2 x hx)
    | _ => exact False.elim h
theorem same_ok {d : Dt} (h : okD 7 d) : den_z_law_same [d, d] = .ok (.bl true) [] := sameN_ok 7 d h
theorem same_ok2 {a b : Dt} (e : a = b) (h : okD 7 b) : den_z_law_same [a, b] = .ok (.bl true) [] := by subst e; exact same_ok h
/-! ### equality of data (without truth values) -/
def okE : Nat → Dt → Prop
  | _, .non => True
  | _, .int _ => True
  | _, .str x => PyData.strOk x = true
  | n + 1, .lst l => ∀ d ∈ l, okE n d
  | n + 1, .tup l => ∀ d ∈ l, okE n d
  | _, _ => False
theorem okE_ints {n : Nat} {l : List Int} : okE (n + 1) (.lst (l.map .int)) := fun d hd => by
  obtain ⟨i, _, rfl⟩ := List.mem_map.mp hd; cases n <;> trivial
theorem toPs_ok {n : Nat} (ih : ∀ d, okE n d → ∃ p, toP d = some p ∧ p.canLay0 = true ∧ p.depth ≤ n) (l : List Dt) (h : ∀ d ∈ l, okE n d) :
    ∃ ps, toPs l = some ps ∧ PyData.canLayAll0 ps = true ∧ PyData.depthAll ps ≤ n := by
  induction l with
  | nil => exact ⟨[], rfl, rfl, Nat.zero_le _⟩
  | cons d r ihl =>
    obtain ⟨p, e1, c1, d1⟩ := ih d (h d (.head _))
    obtain ⟨ps, e2, c2, d2⟩ := ihl fun x hx => h x (.tail _ hx)
    refine ⟨p :: ps, by simp only [toPs, e1, e2], by simp only [PyData.canLayAll0, c1, c2]; rfl, ?_⟩
    show max _ _ ≤ _
    omega
theorem toP_ok : ∀ (n : Nat) (d : Dt), okE n d → ∃ p, toP d = some p ∧ p.canLay0 = true ∧ p.depth ≤ n := by
  intro n
  induction n with
  | zero =>
    intro d h
    cases d with
    | non => exact ⟨_, rfl, rfl, Nat.le_refl _⟩
    | int i => exact ⟨_, rfl, rfl, Nat.le_refl _⟩
    | str x => exact ⟨_, rfl, h, Nat.le_refl _⟩
    | _ => exact False.elim h
  | succ n ih =>
    intro d h
    cases d with
    | non => exact ⟨_, rfl, rfl, Nat.zero_le _⟩
    | int i => exact ⟨_, rfl, rfl, Nat.zero_le _⟩
    | str x => exact ⟨_, rfl, h, Nat.zero_le _⟩
    | lst l =>
      obtain ⟨ps, e, c, d⟩ := toPs_ok ih l h
      exact ⟨.list ps, by simp only [toP, e]; rfl, c, Nat.succ_le_succ d⟩
    | tup l =>
      obtain ⟨ps, e, c, d⟩ := toPs_ok ih l h
      exact ⟨.tuple ps, by simp only [toP, e]; rfl, c, Nat.succ_le_succ d⟩
    | _ => exact False.elim h
theorem eqvs_ok {n : Nat} (ih : ∀ a b p q, okE n a → okE n b → toP a = some p → toP b = some q → (PyData.eqv p q = true ↔ a = b)) (l m : List Dt) (hl : ∀ d ∈ l, okE n d) (hm : ∀ d ∈ m, okE n d) (ps qs : List PyData)
    (e1 : toPs l = some ps) (e2 : toPs m = some qs) : PyData.eqvAll ps qs = true ↔ l = m := by
  induction l generalizing m ps qs with
  | nil =>
    cases e1
    cases m with
    | nil => cases e2; simp [PyData.eqvAll]
    | cons b m =>
      obtain ⟨q, f1, _⟩ := toP_ok _ _ (hm b (.head _))
      obtain ⟨qs', f2, _⟩ := toPs_ok (toP_ok n) m fun x hx => hm x (.tail _ hx)
      simp only [toPs, f1, f2] at e2; cases e2
      simp [PyData.eqvAll]
  | cons a l ihl =>
    obtain ⟨p, g1, _⟩ := toP_ok _ _ (hl a (.head _))
    obtain ⟨ps', g2, _⟩ := toPs_ok (toP_ok n) l fun x hx => hl x (.tail _ hx)
    simp only [toPs, g1, g2] at e1; cases e1
    cases m with
    | nil => cases e2; simp [PyData.eqvAll]
    | cons b m =>
      obtain ⟨q, f1, _⟩ := toP_ok _ _ (hm b (.head _))
      obtain ⟨qs', f2, _⟩ := toPs_ok (toP_ok n) m fun x hx => hm x (.tail _ hx)
      simp only [toPs, f1, f2] at e2; cases e2
      simp only [PyData.eqvAll, Bool.and_eq_true, List.cons.injEq]
      rw [ih a b p q (hl a (.head _)) (hm b (.head _)) g1 f1, ihl m (fun x hx => hl x (.tail _ hx)) (fun x hx => hm x (.tail _ hx)) ps' qs' g2 f2]
theorem eqv_ok : ∀ (n : Nat) (a b : Dt) (p q : PyData), okE n a → okE n b → toP a = some p → toP b = some q → (PyData.eqv p q = true ↔ a = b) := by
  intro n
  induction n with
  | zero =>
    intro a b p q ha hb e1 e2
    cases a <;> first | exact False.elim ha | skip
    all_goals cases b <;> first | exact False.elim hb | skip
    all_goals (cases e1; cases e2; simp [PyData.eqv])
  | succ n ih =>
    intro a b p q ha hb e1 e2
    cases a <;> first | exact False.elim ha | skip
    all_goals cases b <;> first | exact False.elim hb | skip
    case lst.lst l m =>
      obtain ⟨ps, f1, _⟩ := toPs_ok (toP_ok n) l ha
      obtain ⟨qs, f2, _⟩ := toPs_ok (toP_ok n) m hb
      simp only [toP, f1, f2] at e1 e2; cases e1; cases e2
      simp only [PyData.eqv, Dt.lst.injEq]
      exact eqvs_ok ih l m ha hb ps qs f1 f2
    case tup.tup l m =>
      obtain ⟨ps, f1, _⟩ := toPs_ok (toP_ok n) l ha
      obtain ⟨qs, f2, _⟩ := toPs_ok (toP_ok n) m hb
      simp only [toP, f1, f2] at e1 e2; cases e1; cases e2
      simp only [PyData.eqv, Dt.tup.injEq]
      exact eqvs_ok ih l m ha hb ps qs f1 f2
    all_goals first
      | (cases e1; cases e2; simp [PyData.eqv]; done)
      | (obtain ⟨ps, f1, _⟩ := toP_ok (n + 1) _ ha
         obtain ⟨qs, f2, _⟩ := toP_ok (n + 1) _ hb
         simp only [toP, Option.map_eq_some_iff] at e1 e2
         first
         | (obtain ⟨_, _, rfl⟩ := e1; obtain ⟨_, _, rfl⟩ := e2; simp [PyData.eqv]; done)
         | (obtain ⟨_, _, rfl⟩ := e1; cases e2; simp [PyData.eqv]; done)
         | (cases e1; obtain ⟨_, _, rfl⟩ := e2; simp [PyData.eqv]; done))
open Classical in
theorem eqB_ok {n : Nat} {a b : Dt} (hn : n ≤ 64) (ha : okE n a) (hb : okE n b) : eqB a b = some (decide (a = b)) := by
  have g : eqG a b = some (decide (a = b)) := by
    obtain ⟨p, e1, c1, d1⟩ := toP_ok n a ha
    obtain ⟨q, e2, c2, d2⟩ := toP_ok n b hb
    have s1 : SeqAt.shaped p = true := by unfold SeqAt.shaped; rw [c1]; simp; omega
    have s2 : SeqAt.shaped q = true := by unfold SeqAt.shaped; rw [c2]; simp; omega
    have h := eqv_ok n a b p q ha hb e1 e2
    simp only [eqG, e1, e2, s1, s2, Bool.and_self, if_true, Option.some.injEq]
    rw [Bool.eq_iff_iff, h]; simp
  cases a <;> cases b <;> first | exact g | (simp only [eqB]; simp)
theorem okE_intss {n : Nat} {ls : List (List Int)} : okE (n + 2) (.lst (ls.map fun l => .lst (l.map .int))) := fun d hd => by
  obtain ⟨l, _, rfl⟩ := List.mem_map.mp hd; exact okE_ints
theorem okE_nil {n : Nat} : okE (n + 1) (.lst []) := fun d hd => (List.not_mem_nil hd).elim
theorem eqB_self {n : Nat} {a : Dt} (hn : n ≤ 64) (ha : okE n a) : eqB a a = some true := by rw [eqB_ok hn ha ha]; simp
theorem eqB_ne {n : Nat} {a b : Dt} (hn : n ≤ 64) (ha : okE n a) (hb : okE n b) (h : a ≠ b) : eqB a b = some false := by rw [eqB_ok hn ha hb]; simp [h]
theorem okE_intT {n : Nat} {l : List Int} : okE (n + 1) (.tup (l.map .int)) := fun d hd => by
  obtain ⟨i, _, rfl⟩ := List.mem_map.mp hd; cases n <;> trivial
theorem x_eqLI {a b : List Int} : eqB (.lst (a.map .int)) (.lst (b.map .int)) = some (decide (a = b)) := by
  by_cases h : a = b
  · subst h; rw [eqB_self (n := 1) (by decide) okE_ints]; simp
  · rw [eqB_ne (n := 1) (by decide) okE_ints okE_ints (fun e => h (int_map_inj (Dt.lst.inj e)))]; simp [h]
theorem x_eqTI {a b : List Int} : eqB (.tup (a.map .int)) (.tup (b.map .int)) = some (decide (a = b)) := by
  by_cases h : a = b
  · subst h; rw [eqB_self (n := 1) (by decide) okE_intT]; simp
  · rw [eqB_ne (n := 1) (by decide) okE_intT okE_intT (fun e => h (int_map_inj (Dt.tup.inj e)))]; simp [h]
theorem law_or_ok (a b : Int) : den_z_law_or [.int a, .int b] = .ok (.int (Builtin.bitXor a b)) [] := by
  refine wq_of (Q := fun q => q = .ok (.int (Builtin.bitXor a b)) []) (wq_run rfl ?_)
  unfold body_z_law_or
  simp_all? [sg_z_law_or]
  refine wq_rt ?_
  rw [bitOr_and, show a + b - Builtin.bitAnd a b - Builtin.bitAnd a b = Builtin.bitXor a b by rw [bitXor_and]; omega]
  rfl
theorem exclusive_ok (a b : Int) : den_exclusive [.int a, .int b] = .ok (.int (Builtin.bitXor a b)) [] := by
  refine wq_of (Q := fun q => q = .ok (.int (Builtin.bitXor a b)) []) (wq_run rfl ?_)
  unfold body_exclusive
  simp_all? [sg_exclusive]
  exact wq_rt rfl
/-- the bits of a byte, the highest first -/
def bitsL (v : Int) : List Int := [v / 128 % 2, v / 64 % 2, v / 32 % 2, v / 16 % 2, v / 8 % 2, v / 4 % 2, v / 2 % 2, v % 2]
theorem byte_of_bits {v : Int} (h0 : 0 ≤ v) (h1 : v < 256) : (bitsL v).foldl (fun a b => 2 * a + b) 0 = v := by
  simp only [bitsL, List.foldl]; omega
theorem byte_bits_ok (v : Int) : den_byte_bits [.int v] = .ok (.lst ((bitsL v).map .int)) [] := by
  refine wq_of (Q := fun q => q = .ok (.lst ((bitsL v).map .int)) []) (wq_run rfl ?_)
  unfold body_byte_bits
  simp_all? [sg_byte_bits, k_BIT_WEIGHTS, compL, wipeE, backE]
  exact wq_rt rfl
/-! ### the cyclic check -/
def stepB (n bit : Int) : Int := if n / 32768 = bit then 2 * n % 65536 else Builtin.bitXor (2 * n % 65536) 4129
def stepM (n v : Int) : Int := (bitsL v).foldl stepB n
def crcM (ns : List Int) : Int := ns.foldl stepM 65535
theorem step_ok (n v : Int) : den_step [.int n, .int v] = .ok (.int (stepM n v)) [] := by
  refine wq_of (Q := fun q => q = .ok (.int (stepM n v)) []) (wq_run rfl ?_)
  unfold body_step stepM
  simp_all? [sg_step, byte_bits_ok]
  refine wp_then (wp_fold (fun a (j : Option Dt × Option Dt) => [some (.int a), some (.int v), j.1, j.2]) Dt.int stepB (fun _ _ => True) (bitsL v) n (none, none) rfl rfl trivial (fun a j b r _ => ⟨trivial, _, rfl, ?_⟩) fun j _ => ?_)
  · by_cases c : a / 32768 = b
    · simp_all? [c]
      exact wp_nx ⟨(some (.int b), some (.int b)), .inl (by unfold stepB; rw [if_pos c])⟩
    · simp_all? [c, exclusive_ok]
      exact wp_nx ⟨(some (.int b), some (.int (a / 32768))), .inl (by unfold stepB; rw [if_neg c])⟩
  · simp_all? []
    exact wq_rt rfl
theorem crc_ok (l : List Int) : den_crc [.lst (l.map .int)] = .ok (.int (crcM l)) [] := by
  refine wq_of (Q := fun q => q = .ok (.int (crcM l)) []) (wq_run rfl ?_)
  unfold body_crc crcM
  simp_all? [sg_crc]
  refine wp_then (wp_fold (fun a (j : Option Dt) => [some (.lst (l.map .int)), some (.int a), j]) Dt.int stepM (fun _ _ => True) l 65535 none rfl rfl trivial (fun a j b r _ => ⟨trivial, _, rfl, ?_⟩) fun j _ => ?_)
  · simp_all? [step_ok]
    exact wp_nx ⟨_, .inl rfl⟩
  · simp_all? []
    exact wq_rt rfl
theorem stepB_lt {n b : Int} (h0 : 0 ≤ n) (h1 : n < 65536) : 0 ≤ stepB n b ∧ stepB n b < 65536 := by
  unfold stepB
  have a0 : 0 ≤ 2 * n % 65536 := Int.emod_nonneg _ (by decide)
  have a1 : 2 * n % 65536 < 65536 := Int.emod_lt_of_pos _ (by decide)
  split
  · exact ⟨a0, a1⟩
  · refine ⟨Bits.bitXor_nonneg a0 (by decide), ?_⟩
    rw [Bits.bitXor_pp a0 (by decide)]
    have := Nat.xor_lt_two_pow (n := 16) (x := (2 * n % 65536).toNat) (y := (4129 : Int).toNat) (by omega) (by decide)
    omega
theorem stepsB_lt {l : List Int} : ∀ {n : Int}, 0 ≤ n → n < 65536 → 0 ≤ l.foldl stepB n ∧ l.foldl stepB n < 65536 := by
  induction l with
  | nil => exact fun h0 h1 => ⟨h0, h1⟩
  | cons v l ih => exact fun h0 h1 => ih (stepB_lt h0 h1).1 (stepB_lt h0 h1).2
theorem crcFrom_lt {ns : List Int} : ∀ {n : Int}, 0 ≤ n → n < 65536 → 0 ≤ ns.foldl stepM n ∧ ns.foldl stepM n < 65536 := by
  induction ns with
  | nil => exact fun h0 h1 => ⟨h0, h1⟩
  | cons v l ih => exact fun h0 h1 => ih (stepsB_lt h0 h1).1 (stepsB_lt h0 h1).2
theorem crcM_lt (ns : List Int) : 0 ≤ crcM ns ∧ crcM ns < 65536 := crcFrom_lt (by decide) (by decide)
/-! ### loops by place -/
theorem wp_ixD {α : Type} {g : Dt → Env → Option Env} {body : SM} {Q : Sr → Prop} {xs : List Dt} {ρ : Env} (E : α → Env) (I : Nat → α → Prop) (a : α) (h0 : ρ = E a) (hI : I 0 a)
    (step : ∀ i a (hi : i < xs.length), I i a → ∃ ρ1, g xs[i] (E a) = some ρ1 ∧ Wp (body ρ1) fun z => match z with | .nx ρ2 => ∃ a', ρ2 = E a' ∧ I (i + 1) a' | .ct ρ2 => ∃ a', ρ2 = E a' ∧ I (i + 1) a' | .bk ρ2 => Q (.nx ρ2) | y => Q y)
    (done : ∀ a, I xs.length a → Q (.nx (E a))) : Wp (sLoop g body xs ρ) Q := by
  refine wp_loop (fun r ρ => ∃ i a, r = xs.drop i ∧ i ≤ xs.length ∧ ρ = E a ∧ I i a) ⟨0, a, rfl, Nat.zero_le _, h0, hI⟩ (fun x r ρ ⟨i, a, hr, hl, e, hI⟩ => ?_) fun ρ ⟨i, a, hr, hl, e, hI⟩ => ?_
  · subst e
    have hi : i < xs.length := by
      rcases Nat.lt_or_ge i xs.length with h | h
      · exact h
      · rw [List.drop_of_length_le h] at hr; cases hr
    rw [List.drop_eq_getElem_cons hi] at hr
    obtain ⟨rfl, rfl⟩ := List.cons.inj hr
    obtain ⟨ρ1, e1, h⟩ := step i a hi hI
    refine ⟨ρ1, e1, wp_imp h fun z hz => ?_⟩
    cases z with
    | nx ρ2 => obtain ⟨a', e, h⟩ := hz; exact ⟨i + 1, a', rfl, hi, e, h⟩
    | ct ρ2 => obtain ⟨a', e, h⟩ := hz; exact ⟨i + 1, a', rfl, hi, e, h⟩
    | bk ρ2 => exact hz
    | rt d ρ2 => exact hz
    | ex d ρ2 => exact hz
    | stuck => exact hz
  · subst e
    have : i = xs.length := by
      rcases Nat.lt_or_ge i xs.length with h | h
      · rw [List.drop_eq_getElem_cons h] at hr; cases hr
      · omega
    subst this
    exact done a hI
theorem wp_ix {α β : Type} {g : Dt → Env → Option Env} {body : SM} {Q : Sr → Prop} {ρ : Env} {c : β → Dt} {l : List β} (E : α → Env) (I : Nat → α → Prop) (a : α) (h0 : ρ = E a) (hI : I 0 a)
    (step : ∀ i a (hi : i < l.length), I i a → ∃ ρ1, g (c l[i]) (E a) = some ρ1 ∧ Wp (body ρ1) fun z => match z with | .nx ρ2 => ∃ a', ρ2 = E a' ∧ I (i + 1) a' | .ct ρ2 => ∃ a', ρ2 = E a' ∧ I (i + 1) a' | .bk ρ2 => Q (.nx ρ2) | y => Q y)
    (done : ∀ a, I l.length a → Q (.nx (E a))) : Wp (sLoop g body (l.map c) ρ) Q := by
  refine wp_ixD E I a h0 hI (fun i a hi h => ?_) fun a h => done a (by rw [List.length_map] at h; exact h)
  have hi' : i < l.length := by rw [List.length_map] at hi; exact hi
  rw [List.getElem_map]
  exact step i a hi' h
theorem wp_en {α β : Type} {g : Dt → Env → Option Env} {body : SM} {Q : Sr → Prop} {ρ : Env} {c : β → Dt} {l : List β} (E : α → Env) (I : Nat → α → Prop) (a : α) (h0 : ρ = E a) (hI : I 0 a)
    (step : ∀ i a (hi : i < l.length), I i a → ∃ ρ1, g (.tup [.int (i : Int), c l[i]]) (E a) = some ρ1 ∧ Wp (body ρ1) fun z => match z with | .nx ρ2 => ∃ a', ρ2 = E a' ∧ I (i + 1) a' | .ct ρ2 => ∃ a', ρ2 = E a' ∧ I (i + 1) a' | .bk ρ2 => Q (.nx ρ2) | y => Q y)
    (done : ∀ a, I l.length a → Q (.nx (E a))) : Wp (sLoop g body (enumL 0 (l.map c)) ρ) Q := by
  refine wp_ixD E I a h0 hI (fun i a hi h => ?_) fun a h => done a (by rw [enumL_len, List.length_map] at h; exact h)
  have hi' : i < l.length := by rw [enumL_len, List.length_map] at hi; exact hi
  obtain ⟨d, h1, h2⟩ := enumL_at (List.getElem?_eq_getElem hi)
  rw [List.getElem?_map, List.getElem?_eq_getElem hi'] at h1
  cases h1
  rw [h2, Nat.zero_add]
  exact step i a hi' h
theorem wp_rg {α : Type} {g : Dt → Env → Option Env} {body : SM} {Q : Sr → Prop} {ρ : Env} {n : Nat} (E : α → Env) (I : Nat → α → Prop) (a : α) (h0 : ρ = E a) (hI : I 0 a)
    (step : ∀ i a, i < n → I i a → ∃ ρ1, g (.int (i : Int)) (E a) = some ρ1 ∧ Wp (body ρ1) fun z => match z with | .nx ρ2 => ∃ a', ρ2 = E a' ∧ I (i + 1) a' | .ct ρ2 => ∃ a', ρ2 = E a' ∧ I (i + 1) a' | .bk ρ2 => Q (.nx ρ2) | y => Q y)
    (done : ∀ a, I n a → Q (.nx (E a))) : Wp (sLoop g body (rngL 0 n) ρ) Q := by
  refine wp_ixD E I a h0 hI (fun i a hi h => ?_) fun a h => done a (by rw [rngL_length] at h; exact h)
  have hi' : i < n := by rw [rngL_length] at hi; exact hi
  have e : (rngL 0 n)[i] = .int (i : Int) := by
    have := (rngL_at (List.getElem?_eq_getElem hi)).1
    rw [this, Int.zero_add]
  rw [e]
  exact step i a hi' h
theorem w_enumT {l : List Dt} : enumDA [.tup l] = some (enumL 0 l) := rfl
theorem nI_set {l : List Int} {k : Nat} {v j : Int} (h : k < l.length) : nI (l.set k v) j = if j.toNat = k then v else nI l j := by
  unfold nI
  rw [List.getD_eq_getElem?_getD, List.getElem?_set]
  by_cases e : k = j.toNat
  · subst e; simp [h]
  · rw [if_neg e, if_neg (fun z => e z.symm), List.getD_eq_getElem?_getD]
theorem set_map {l : List Int} {k : Nat} {v : Int} : (l.map Dt.int).set k (.int v) = (l.set k v).map Dt.int := by rw [List.map_set]
theorem nI_ext {l m : List Int} (h : l.length = m.length) (e : ∀ i : Nat, i < l.length → nI l (i : Int) = nI m (i : Int)) : l = m := by
  apply List.ext_getElem h
  intro i h1 h2
  have := e i h1
  rw [nI_nat h1, nI_nat h2] at this
  exact this
/-! ### the law's own check -/
theorem bit15 {n : Int} : Builtin.bitAnd (n / 2 ^ (15 : Int).toNat) 1 = n / 32768 % 2 := by
  rw [bitAnd_m1]; rfl
theorem shl1 {n : Int} (h0 : 0 ≤ n) : Builtin.bitAnd (n * 2 ^ (1 : Int).toNat) 65535 = 2 * n % 65536 := by
  have e : (2 : Int) ^ (1 : Int).toNat = 2 := by decide
  rw [e, show (65535 : Int) = 2 ^ 16 - 1 by decide, Bits.bitAnd_mask 16 (by omega), Int.mul_comm]
  rfl
theorem law_check_ok (l : List Int) : den_z_law_check [.lst (l.map .int)] = .ok (.int (crcM l)) [] := by
  refine wq_of (Q := fun q => q = .ok (.int (crcM l)) []) (wq_run rfl ?_)
  unfold body_z_law_check crcM
  simp_all? [sg_z_law_check]
  refine wp_then (wp_fold (fun a (j : Option Dt × Option Dt × Option Dt) => [some (.lst (l.map .int)), some (.int a), j.1, j.2.1, j.2.2]) Dt.int stepM (fun _ a => 0 ≤ a ∧ a < 65536) l 65535 (none, none, none) rfl rfl (by decide) (fun a j b r h => ⟨stepsB_lt h.1 h.2, _, rfl, ?_⟩) fun j _ => ?_)
  · simp_all? []
    refine wp_rg (fun (x : Int × Option Dt × Option Dt) => [some (.lst (l.map .int)), some (.int x.1), some (.int b), x.2.1, x.2.2]) (fun i x => (0 ≤ x.1 ∧ x.1 < 65536) ∧ x.1 = ((bitsL b).take i).foldl stepB a) (a, j.2.1, j.2.2) rfl ⟨h, rfl⟩ (fun i x hi hx => ?_) fun x hx => ?_
    · obtain ⟨n, o, p⟩ := x
      obtain ⟨hn, en⟩ := hx
      simp only [] at hn en
      refine ⟨_, rfl, ?_⟩
      have hb : (bitsL b)[i]? = some (Builtin.bitAnd (b / 2 ^ (7 - i)) 1) := by
        rw [bitAnd_m1]
        have : i = 0 ∨ i = 1 ∨ i = 2 ∨ i = 3 ∨ i = 4 ∨ i = 5 ∨ i = 6 ∨ i = 7 := by omega
        rcases this with rfl | rfl | rfl | rfl | rfl | rfl | rfl | rfl
        all_goals first | rfl | (show some (b % 2) = _; simp)
      have et : n / 32768 % 2 = n / 32768 := by omega
      have e1 : ((bitsL b).take (i + 1)).foldl stepB a = stepB n (Builtin.bitAnd (b / 2 ^ (7 - i)) 1) := by
        rw [List.take_succ, hb, List.foldl_append, ← en]; rfl
      have hs := stepB_lt (b := Builtin.bitAnd (b / 2 ^ (7 - i)) 1) hn.1 hn.2
      have hB2 : Builtin.bitAnd (b / 2 ^ (7 - i)) 1 % 2 = Builtin.bitAnd (b / 2 ^ (7 - i)) 1 := by rw [bitAnd_m1]; omega
      have bT : Builtin.bitAnd (n / 32768) 1 = n / 32768 := by rw [bitAnd_m1]; exact et
      have sh : Builtin.bitAnd (n * 2) 65535 = 2 * n % 65536 := shl1 hn.1
      generalize hB : Builtin.bitAnd (b / 2 ^ (7 - i)) 1 = B at *
      have bB : Builtin.bitAnd B 1 = B := by rw [bitAnd_m1]; exact hB2
      by_cases c : n / 32768 = B
      · simp_all? [bT, bB, sh, hB, c]
        exact wp_nx ⟨(2 * n % 65536, some (.int (i : Int)), some (.int B)), by simp, by simpa [stepB, c] using hs, by rw [e1]; simp [stepB, c]⟩
      · simp_all? [bT, sh, hB, c, law_or_ok]
        exact wp_nx ⟨(Builtin.bitXor (2 * n % 65536) 4129, some (.int (i : Int)), some (.int (n / 32768))), by simp, by simpa [stepB, c] using hs, by rw [e1]; simp [stepB, c]⟩
    · obtain ⟨n, o, p⟩ := x
      obtain ⟨hn, en⟩ := hx
      simp only [] at hn en
      rw [show (bitsL b).take 8 = bitsL b from rfl] at en
      exact ⟨(some (.int b), o, p), .inl (by rw [en]; rfl)⟩
  · simp_all? []
    exact wq_rt rfl
/-! ### a block, statement by statement -/
theorem wp_st {a b : SM} {ρ : Env} {R Q : Sr → Prop} (h : Wp (a ρ) R) (k : ∀ z, R z → Wp (z.then b) Q) : Wp (sSeq a b ρ) Q := k _ h
theorem wp_eq {a b : SM} {ρ ρ' : Env} {Q : Sr → Prop} (h : a ρ = .nx ρ') (k : Wp (b ρ') Q) : Wp (sSeq a b ρ) Q := by
  unfold Wp; rw [w_seq, h]; exact k
theorem if_eq {c : EM Bool} {a b : SM} {ρ ρ1 : Env} {k : Bool} (h : c ρ = .ok k ρ1) : sIf c a b ρ = if k = true then a ρ1 else b ρ1 := by
  rw [w_if, h]; rfl
theorem if_t {c : EM Bool} {a b : SM} {ρ ρ1 : Env} (h : c ρ = .ok true ρ1) : sIf c a b ρ = a ρ1 := by rw [if_eq h, if_pos rfl]
theorem if_f {c : EM Bool} {a b : SM} {ρ ρ1 : Env} (h : c ρ = .ok false ρ1) : sIf c a b ρ = b ρ1 := by rw [if_eq h, if_neg (by decide)]
theorem ix_step {e1 e2 : EM Dt} {ρ ρ1 ρ2 : Env} {l : List Dt} {v : Int} {d : Dt} (h1 : e1 ρ = .ok (.lst l) ρ1) (h2 : e2 ρ1 = .ok (.int v) ρ2) (h : atI l v = some d) : eOp ixD [.val e1, .val e2] ρ = .ok d ρ2 := by
  simp? [h1, h2, h]
theorem mut_b {i : Nat} {f : List Dt → List Dt → Option (List Dt × Dt)} {e1 e2 : EM Dt} {ρ ρ1 : Env} {l0 l l' : List Dt} {a : Nat} {d : Dt} (h1 : e1 ρ = .ok (.int (a : Int)) ρ) (h2 : e2 ρ = .ok d ρ1) (g0 : gv ρ i = some (.lst l0)) (g1 : gv ρ1 i = some (.lst l)) (q : f l [.int (a : Int), d] = some (l', .non)) :
    sDo (eMut i f [.val e1, .val e2]) ρ = .nx (ρ1.set i (some (.lst l'))) := by
  have hm : eMut i f [.val e1, .val e2] ρ = .ok .non (ρ1.set i (some (.lst l'))) := by
    rw [w_mut, g0]
    have ea : eArgs [.val e1, .val e2] ρ = .ok [.int (a : Int), d] ρ1 := by rw [w_ag1, h1, w_bd1, w_ag1, h2, w_bd1, w_ag0, w_bd1]; rfl
    simp only []
    rw [ea, w_bd1, g1]
    simp only []
    rw [q]
  rw [w_do, hm, w_go1]
/-- loops whose turn is told by a fact of its own (the turn's word is then never read) -/
theorem wp_rg2 {α : Type} {g : Dt → Env → Option Env} {body : SM} {Q : Sr → Prop} {ρ : Env} {n : Nat} (E : α → Env) (I : Nat → α → Prop) (a : α) (h0 : ρ = E a) (hI : I 0 a)
    (step : ∀ i a, i < n → I i a → ∃ ρ1 R, g (.int (i : Int)) (E a) = some ρ1 ∧ Wp (body ρ1) R ∧ ∀ z, R z → match z with | .nx ρ2 => ∃ a', ρ2 = E a' ∧ I (i + 1) a' | .ct ρ2 => ∃ a', ρ2 = E a' ∧ I (i + 1) a' | .bk ρ2 => Q (.nx ρ2) | y => Q y)
    (done : ∀ a, I n a → Q (.nx (E a))) : Wp (sLoop g body (rngL 0 n) ρ) Q :=
  wp_rg E I a h0 hI (fun i a hi h => by obtain ⟨ρ1, R, e, h1, h2⟩ := step i a hi h; exact ⟨ρ1, e, wp_imp h1 h2⟩) done
theorem wp_ix2 {α β : Type} {g : Dt → Env → Option Env} {body : SM} {Q : Sr → Prop} {ρ : Env} {c : β → Dt} {l : List β} (E : α → Env) (I : Nat → α → Prop) (a : α) (h0 : ρ = E a) (hI : I 0 a)
    (step : ∀ i a (hi : i < l.length), I i a → ∃ ρ1 R, g (c l[i]) (E a) = some ρ1 ∧ Wp (body ρ1) R ∧ ∀ z, R z → match z with | .nx ρ2 => ∃ a', ρ2 = E a' ∧ I (i + 1) a' | .ct ρ2 => ∃ a', ρ2 = E a' ∧ I (i + 1) a' | .bk ρ2 => Q (.nx ρ2) | y => Q y)
    (done : ∀ a, I l.length a → Q (.nx (E a))) : Wp (sLoop g body (l.map c) ρ) Q :=
  wp_ix E I a h0 hI (fun i a hi h => by obtain ⟨ρ1, R, e, h1, h2⟩ := step i a hi h; exact ⟨ρ1, e, wp_imp h1 h2⟩) done
theorem wp_en2 {α β : Type} {g : Dt → Env → Option Env} {body : SM} {Q : Sr → Prop} {ρ : Env} {c : β → Dt} {l : List β} (E : α → Env) (I : Nat → α → Prop) (a : α) (h0 : ρ = E a) (hI : I 0 a)
    (step : ∀ i a (hi : i < l.length), I i a → ∃ ρ1 R, g (.tup [.int (i : Int), c l[i]]) (E a) = some ρ1 ∧ Wp (body ρ1) R ∧ ∀ z, R z → match z with | .nx ρ2 => ∃ a', ρ2 = E a' ∧ I (i + 1) a' | .ct ρ2 => ∃ a', ρ2 = E a' ∧ I (i + 1) a' | .bk ρ2 => Q (.nx ρ2) | y => Q y)
    (done : ∀ a, I l.length a → Q (.nx (E a))) : Wp (sLoop g body (enumL 0 (l.map c)) ρ) Q :=
  wp_en E I a h0 hI (fun i a hi h => by obtain ⟨ρ1, R, e, h1, h2⟩ := step i a hi h; exact ⟨ρ1, e, wp_imp h1 h2⟩) done
/-! ### rows of numbers -/
abbrev rowD (l : List Int) : Dt := .lst (l.map .int)
theorem rowD_inj {a b : List (List Int)} (h : a.map rowD = b.map rowD) : a = b := by
  induction a generalizing b with
  | nil => cases b with
    | nil => rfl
    | cons _ _ => cases h
  | cons x a ih => cases b with
    | nil => cases h
    | cons y b => simp only [List.map_cons, List.cons.injEq, rowD, Dt.lst.injEq] at h; rw [int_map_inj h.1, ih h.2]
theorem v_flatI {i : Int} : flatB (.int i) = true := rfl
theorem v_flatB {b : Bool} : flatB (.bl b) = true := rfl
theorem v_flatS {x : Str} : flatB (.str x) = true := rfl
theorem v_flatN : flatB .non = true := rfl
theorem rows_of {R : List Int → Prop} {ds : List Dt} (h : ∀ d ∈ ds, ∃ v, d = rowD v ∧ R v) : ∃ l : List (List Int), ds = l.map rowD ∧ l.length = ds.length ∧ ∀ v ∈ l, R v := by
  induction ds with
  | nil => exact ⟨[], rfl, rfl, fun _ h => (List.not_mem_nil h).elim⟩
  | cons d r ih =>
    obtain ⟨v, rfl, hv⟩ := h d (.head _)
    obtain ⟨l, rfl, hl, hR⟩ := ih fun y hy => h y (.tail _ hy)
    exact ⟨v :: l, rfl, by simp, fun y hy => by rcases List.mem_cons.mp hy with rfl | h2; exact hv; exact hR y h2⟩
/-! ### fields -/
theorem v_agf {cs : List Str} {i : Nat} {f : Str} {r : List AE} {ρ : Env} : eArgs (.fld cs i f :: r) ρ = if ((gv ρ i).bind (fldC cs · f)).isSome then (eArgs r ρ).bind fun ds ρ2 => (match (gv ρ2 i).bind (fldC cs · f) with | some d => .ok (d :: ds) ρ2 | none => .stuck) else .stuck := rfl
theorem v_fldC {cs : List Str} {cn f : Str} {fs : List (Str × Dt)} : fldC cs (.obj cn fs) f = if cs.contains cn then fs.lookup f else none := rfl
theorem v_putF {cs : List Str} {i : Nat} {g : Str} {k e : EM Dt} {ρ : Env} : sPutF cs i g k e ρ = (e ρ).go fun d ρ1 => match gv ρ1 i with
  | some (.obj cn fs) => if cs.contains cn then (match fs.lookup g with
    | some (.lst _) => (k ρ1).go fun z ρ2 => (match gv ρ2 i, z with
      | some (.obj cn2 fs2), .int n => (match fs2.lookup g with
        | some (.lst l) => (match ixN l.length n with | some j => .nx (ρ2.set i (some (.obj cn2 (setFD g (.lst (l.set j d)) fs2)))) | none => .stuck)
        | _ => .stuck)
      | _, _ => .stuck)
    | _ => .stuck) else .stuck
  | _ => .stuck := rfl
theorem v_methO {cn m : Str} {f : List Dt → Fq} {i : Nat} {as : List AE} {dds : List Dt} {ρ : Env} : eMethO cn m f i as dds ρ = if ((gv ρ i).map (isC cn m)) = some true then eCall f (.own i :: as) dds ρ else .stuck := rfl
theorem v_mutF {cs : List Str} {i : Nat} {g : Str} {f : List Dt → List Dt → Option (List Dt × Dt)} {as : List AE} {ρ : Env} : eMutF cs i g f as ρ = match gv ρ i with
  | some (.obj cn fs) => if cs.contains cn then (match fs.lookup g with
    | some (.lst _) => (eArgs as ρ).bind fun ds ρ1 => (match gv ρ1 i with
      | some (.obj cn2 fs2) => (match fs2.lookup g with
        | some (.lst l) => (match f l ds with
          | some (l', z) => .ok z (ρ1.set i (some (.obj cn2 (setFD g (.lst l') fs2))))
          | none => .stuck)
        | _ => .stuck)
      | _ => .stuck)
    | _ => .stuck) else .stuck
  | _ => .stuck := rfl
theorem v_extT {l m : List Dt} (h : l.length + m.length ≤ 16777216) : extTD l [.tup m] = some (l ++ m, .non) := if_pos h
/-! ### dicts -/
theorem v_dic {ρ : Env} : eDic ρ = .ok (.dic []) ρ := rfl
theorem v_dput {i : Nat} {kk e : EM Dt} {ρ : Env} : sDPut i kk e ρ = (e ρ).go fun d ρ1 => if (gv ρ1 i).isSome then (kk ρ1).go fun z ρ2 => (match gv ρ2 i, keyD z with
  | some (.dic l), some k => if l.length < 16777216 then .nx (ρ2.set i (some (.dic (putL l k d)))) else .stuck
  | _, _ => .stuck) else .stuck := rfl
theorem v_dgetO {i : Nat} {kk e : EM Dt} {ρ : Env} : eDGetO i kk e ρ = if (gv ρ i).isSome then (kk ρ).bind fun z ρ1 => (e ρ1).bind fun d ρ2 => (match gv ρ2 i, keyD z with
  | some (.dic l), some k => .ok ((getL l k).getD d) ρ2
  | _, _ => .stuck) else .stuck := rfl
theorem v_key1 {i : Int} : keyD (.int i) = some (.inl i) := rfl
theorem v_key2 {x : Str} : keyD (.str x) = some (.inr x) := rfl
theorem v_frzS {i : Nat} {s : SM} {ρ : Env} : sFrz i s ρ = match (gv ρ i).bind frzD with | some d => s (ρ.set i (some d)) | none => .stuck := rfl
theorem v_frzE {e : EM Dt} {ρ : Env} : eFrz e ρ = (e ρ).bind fun d ρ1 => match frzD d with | some z => .ok z ρ1 | none => .stuck := rfl
theorem v_frz1 {l : List (Dt × Dt)} : frzD (.dic l) = some (.rdc l) := rfl
theorem v_keys {e : EM Dt} {ρ : Env} : iKeysD e ρ = (e ρ).bind fun d ρ1 => match d with | .rdc l => .ok (l.map (·.1)) ρ1 | _ => .stuck := rfl
/-! ### what changed bits do to the check -/
def lN (n : Nat) : Nat := if n / 32768 = 0 then 2 * n % 65536 else (2 * n % 65536) ^^^ 4129
def sN (n b : Nat) : Nat := lN (n ^^^ (b * 32768))
theorem lN_lt {n : Nat} : lN n < 65536 := by
  unfold lN
  split
  · exact Nat.mod_lt _ (by decide)
  · exact Nat.xor_lt_two_pow (n := 16) (Nat.mod_lt _ (by decide)) (by decide)
theorem dbl_xor (a b : Nat) : 2 * (a ^^^ b) % 65536 = (2 * a % 65536) ^^^ (2 * b % 65536) := by
  have e : ∀ x : Nat, 2 * x % 65536 = (x <<< 1) % 2 ^ 16 := fun x => by rw [Nat.shiftLeft_eq]; omega
  rw [e, e, e, Nat.shiftLeft_xor_distrib, Nat.xor_mod_two_pow]
theorem top_xor (a b : Nat) : (a ^^^ b) / 32768 = (a / 32768) ^^^ (b / 32768) := Nat.xor_div_two_pow (n := 15)
theorem top01 {a : Nat} (h : a < 65536) : a / 32768 = 0 ∨ a / 32768 = 1 := by omega
theorem lN_xor {a b : Nat} (ha : a < 65536) (hb : b < 65536) : lN (a ^^^ b) = lN a ^^^ lN b := by
  unfold lN
  rw [top_xor, dbl_xor]
  rcases top01 ha with h1 | h1 <;> rcases top01 hb with h2 | h2 <;> rw [h1, h2]
  · rfl
  · simp [Nat.xor_assoc]
  · simp [Nat.xor_assoc]
    rw [Nat.xor_comm 4129]
  · simp
    generalize 2 * a % 65536 = x
    generalize 2 * b % 65536 = y
    rw [Nat.xor_assoc, ← Nat.xor_assoc 4129, Nat.xor_comm 4129 y, Nat.xor_assoc y, Nat.xor_self, Nat.xor_zero]
theorem xor0 {a b : Nat} (h : a ^^^ b = 0) : a = b := by
  have := congrArg (· ^^^ b) h
  simpa [Nat.xor_assoc] using this
theorem lN_ne {a : Nat} (ha : a < 65536) (h : a ≠ 0) : lN a ≠ 0 := by
  unfold lN
  split
  · omega
  · intro z
    have : 2 * a % 65536 = 4129 := xor0 z
    omega
def itL : Nat → Nat → Nat
  | 0, n => n
  | k + 1, n => itL k (lN n)
theorem itL_lt {k n : Nat} (h : n < 65536) : itL k n < 65536 := by
  induction k generalizing n with
  | zero => exact h
  | succ k ih => exact ih lN_lt
theorem itL_xor {k a b : Nat} (ha : a < 65536) (hb : b < 65536) : itL k (a ^^^ b) = itL k a ^^^ itL k b := by
  induction k generalizing a b with
  | zero => rfl
  | succ k ih => show itL k (lN (a ^^^ b)) = _; rw [lN_xor ha hb, ih lN_lt lN_lt]; rfl
theorem itL_ne {k a : Nat} (ha : a < 65536) (h : a ≠ 0) : itL k a ≠ 0 := by
  induction k generalizing a with
  | zero => exact h
  | succ k ih => exact ih lN_lt (lN_ne ha h)
theorem itL_add {j k n : Nat} : itL (j + k) n = itL k (itL j n) := by
  induction j generalizing n with
  | zero => rw [Nat.zero_add]; rfl
  | succ j ih => rw [show j + 1 + k = (j + k) + 1 by omega]; show itL (j + k) (lN n) = _; rw [ih]; rfl
theorem itL_inj {k a b : Nat} (ha : a < 65536) (hb : b < 65536) (h : itL k a = itL k b) : a = b := by
  apply Decidable.byContradiction
  intro ne
  have h1 : a ^^^ b < 65536 := Nat.xor_lt_two_pow (n := 16) ha hb
  have := itL_ne (k := k) h1 fun z => ne (xor0 z)
  rw [itL_xor ha hb, h, Nat.xor_self] at this
  exact this rfl
/-- the parity of a number's bits -/
def parN (n : Nat) : Bool := (List.range 16).foldl (fun s i => s ^^ n.testBit i) false
theorem parN_eq (n : Nat) : parN n = (n.testBit 0 ^^ n.testBit 1 ^^ n.testBit 2 ^^ n.testBit 3 ^^ n.testBit 4 ^^ n.testBit 5 ^^ n.testBit 6 ^^ n.testBit 7 ^^ n.testBit 8 ^^ n.testBit 9 ^^ n.testBit 10 ^^ n.testBit 11 ^^ n.testBit 12 ^^ n.testBit 13 ^^ n.testBit 14 ^^ n.testBit 15) := by
  unfold parN
  rw [show List.range 16 = [0, 1, 2, 3, 4, 5, 6, 7, 8, 9, 10, 11, 12, 13, 14, 15] from rfl]
  simp only [List.foldl, Bool.false_xor]
theorem parF {a b : Nat} (l : List Nat) : ∀ s t : Bool, l.foldl (fun s i => s ^^ (a ^^^ b).testBit i) (s ^^ t) = (l.foldl (fun s i => s ^^ a.testBit i) s ^^ l.foldl (fun s i => s ^^ b.testBit i) t) := by
  induction l with
  | nil => intro s t; rfl
  | cons i l ih =>
    intro s t
    simp only [List.foldl_cons]
    rw [← ih, Nat.testBit_xor]
    congr 1
    cases s <;> cases t <;> cases a.testBit i <;> cases b.testBit i <;> rfl
theorem parN_xor (a b : Nat) : parN (a ^^^ b) = (parN a ^^ parN b) := parF (List.range 16) false false
theorem tb_dbl (a i : Nat) : (2 * a % 65536).testBit (i + 1) = (decide (i + 1 < 16) && a.testBit i) := by
  have e : 2 * a % 65536 = (2 * a) % 2 ^ 16 := rfl
  rw [e, Nat.testBit_mod_two_pow]
  congr 1
  rw [Nat.testBit_succ]
  congr 1
  omega
theorem tb_dbl0 (a : Nat) : (2 * a % 65536).testBit 0 = false := by
  rw [Nat.testBit_zero]; simp
theorem parN_lN {a : Nat} (h : a < 65536) : parN (lN a) = parN a := by
  have e : parN (2 * a % 65536) = (a.testBit 0 ^^ a.testBit 1 ^^ a.testBit 2 ^^ a.testBit 3 ^^ a.testBit 4 ^^ a.testBit 5 ^^ a.testBit 6 ^^ a.testBit 7 ^^ a.testBit 8 ^^ a.testBit 9 ^^ a.testBit 10 ^^ a.testBit 11 ^^ a.testBit 12 ^^ a.testBit 13 ^^ a.testBit 14) := by
    rw [parN_eq]
    simp only [tb_dbl, tb_dbl0]
    simp
  have e15 : a.testBit 15 = decide (a / 32768 = 1) := by
    rw [Nat.testBit]
    simp only [Nat.shiftRight_eq_div_pow]
    rw [show (2 : Nat) ^ 15 = 32768 by decide]
    rcases top01 h with h | h <;> rw [h] <;> rfl
  have e1 : parN a = (parN (2 * a % 65536) ^^ a.testBit 15) := by
    rw [e, parN_eq]
  unfold lN
  rw [e1, e15]
  rcases top01 h with h | h
  · rw [if_pos h, h]; simp
  · rw [if_neg (by omega), h, parN_xor, show parN 4129 = true by decide]; simp
theorem parN_it {k a : Nat} (h : a < 65536) : parN (itL k a) = parN a := by
  induction k generalizing a with
  | zero => rfl
  | succ k ih => show parN (itL k (lN a)) = _; rw [ih lN_lt, parN_lN h]
theorem par1 {k : Nat} : parN (itL k 32768) = true := by rw [parN_it (by decide)]; decide
/-- far enough -/
def chkL : Nat → Nat → Bool
  | 0, _ => true
  | k + 1, n => match lN n with
    | m => !(m == 32768) && chkL k m
theorem chkL_sp {k n : Nat} (h : chkL k n = true) : ∀ j, j < k → itL (j + 1) n ≠ 32768 := by
  induction k generalizing n with
  | zero => intro j h; omega
  | succ k ih =>
    intro j hj
    unfold chkL at h
    simp only [Bool.and_eq_true, Bool.not_eq_true', beq_eq_false_iff_ne] at h
    cases j with
    | zero => exact h.1
    | succ j => exact ih h.2 j (by omega)
theorem chk1600 : chkL 1600 32768 = true := by decide +kernel
theorem far {j k : Nat} (h : j < k) (hk : k ≤ 1600) : itL j 32768 ≠ itL k 32768 := by
  intro e
  obtain ⟨d, rfl⟩ : ∃ d, k = (d + 1) + j := ⟨k - j - 1, by omega⟩
  rw [itL_add] at e
  have := itL_inj (k := j) (by decide) (itL_lt (by decide)) e
  exact chkL_sp chk1600 d (by omega) this.symm
/-- one to three places -/
theorem flips3 {ks : List Nat} (h1 : 1 ≤ ks.length) (h3 : ks.length ≤ 3) (nd : ks.Nodup) (hk : ∀ k ∈ ks, k ≤ 1600) (s : Nat) (hs : s < 65536) : ks.foldl (fun s k => s ^^^ itL k 32768) s ≠ s := by
  intro e
  have hl : ∀ k, itL k 32768 < 65536 := fun k => itL_lt (by decide)
  have hp : parN 0 = false := by decide
  match ks, h1, h3 with
  | [a], _, _ =>
    simp only [List.foldl] at e
    have e2 : itL a 32768 = 0 := by
      have := congrArg (s ^^^ ·) e
      simpa [← Nat.xor_assoc] using this
    have := par1 (k := a); rw [e2, hp] at this; cases this
  | [a, b], _, _ =>
    simp only [List.foldl] at e
    have e2 : itL a 32768 = itL b 32768 := by
      apply xor0
      have := congrArg (s ^^^ ·) e
      simpa [← Nat.xor_assoc] using this
    simp only [List.nodup_cons, List.mem_cons, List.not_mem_nil, or_false] at nd
    have ha := hk a (.head _); have hb := hk b (.tail _ (.head _))
    rcases Nat.lt_trichotomy a b with h | h | h
    · exact far h hb e2
    · exact nd.1 h
    · exact far h ha e2.symm
  | [a, b, c], _, _ =>
    simp only [List.foldl] at e
    have e2 : itL a 32768 ^^^ itL b 32768 ^^^ itL c 32768 = 0 := by
      have := congrArg (s ^^^ ·) e
      simpa [← Nat.xor_assoc] using this
    have := parN_xor (itL a 32768 ^^^ itL b 32768) (itL c 32768)
    rw [e2, parN_xor, par1, par1, par1, hp] at this; cases this
/-! ### flipped bits -/
def flipB (o : List Int) (p : Int) : List Int := o.set (p / 8).toNat (Builtin.bitXor (nI o (p / 8)) (128 / 2 ^ (p % 8).toNat))
theorem stepB_sN {n b : Nat} (hn : n < 65536) (hb : b < 2) : stepB (n : Int) (b : Int) = (sN n b : Nat) := by
  unfold stepB sN lN
  have e1 : ((n : Int) / 32768 = (b : Int)) ↔ (n / 32768 = b) := by omega
  have e2 : (2 : Int) * n % 65536 = ((2 * n % 65536 : Nat) : Int) := by omega
  have e3 : 2 * (n ^^^ (b * 32768)) % 65536 = 2 * n % 65536 := by
    rw [dbl_xor, show 2 * (b * 32768) % 65536 = 0 by omega, Nat.xor_zero]
  have e4 : (n ^^^ (b * 32768)) / 32768 = (n / 32768) ^^^ b := by rw [top_xor, Nat.mul_div_cancel _ (by decide)]
  rw [e2, e3, e4]
  by_cases c : n / 32768 = b
  · rw [if_pos (e1.mpr c), c, Nat.xor_self, if_pos rfl]
  · rw [if_neg fun z => c (e1.mp z), if_neg fun z => c (xor0 z), Bits.bitXor_pp (by omega) (by decide)]
    rfl
theorem sN_lt {n b : Nat} : sN n b < 65536 := lN_lt
def toN (l : List Int) : List Nat := l.map Int.toNat
theorem fold_sN {l : List Int} (h : ∀ b ∈ l, 0 ≤ b ∧ b < 2) : ∀ {n : Nat}, n < 65536 → l.foldl stepB (n : Int) = ((toN l).foldl sN n : Nat) := by
  induction l with
  | nil => intro n _; rfl
  | cons b l ih =>
    intro n hn
    obtain ⟨h0, h1⟩ := h b (.head _)
    obtain ⟨k, rfl⟩ : ∃ k : Nat, b = k := ⟨b.toNat, by omega⟩
    show l.foldl stepB (stepB n k) = ((toN l).foldl sN (sN n (k : Int).toNat) : Nat)
    rw [stepB_sN hn (by omega), ih (fun b hb => h b (.tail _ hb)) sN_lt, Int.toNat_natCast]
theorem fold_lt {l : List Nat} {n : Nat} (hn : n < 65536) : l.foldl sN n < 65536 := by
  induction l generalizing n with
  | nil => exact hn
  | cons b l ih => exact ih sN_lt
theorem b15 {b : Nat} (hb : b < 2) : b * 32768 < 65536 := by omega
theorem sN_xor {n d b : Nat} (hn : n < 65536) (hd : d < 65536) (hb : b < 2) : sN (n ^^^ d) b = sN n b ^^^ lN d := by
  unfold sN
  rw [Nat.xor_assoc, Nat.xor_comm d, ← Nat.xor_assoc, lN_xor (Nat.xor_lt_two_pow (n := 16) hn (b15 hb)) hd]
theorem fold_xor {l : List Nat} (h : ∀ b ∈ l, b < 2) : ∀ {n d : Nat}, n < 65536 → d < 65536 → l.foldl sN (n ^^^ d) = l.foldl sN n ^^^ itL l.length d := by
  induction l with
  | nil => intro n d _ _; rfl
  | cons b l ih =>
    intro n d hn hd
    show l.foldl sN (sN (n ^^^ d) b) = l.foldl sN (sN n b) ^^^ itL l.length (lN d)
    rw [sN_xor hn hd (h b (.head _)), ih (fun b hb => h b (.tail _ hb)) sN_lt lN_lt]
theorem fold_flip {l : List Nat} {p : Nat} (h : ∀ b ∈ l, b < 2) (hp : p < l.length) {n : Nat} (hn : n < 65536) : (l.set p (1 - l[p])).foldl sN n = l.foldl sN n ^^^ itL (l.length - p) 32768 := by
  induction l generalizing p n with
  | nil => exact absurd hp (by simp)
  | cons b l ih =>
    have hb := h b (.head _)
    have hl : ∀ b ∈ l, b < 2 := fun b hb => h b (.tail _ hb)
    cases p with
    | zero =>
      have e : sN n (1 - b) = sN n b ^^^ lN 32768 := by
        have : sN n (1 - b) = sN (n ^^^ 32768) b := by
          unfold sN
          rw [Nat.xor_assoc]
          congr 2
          rcases (by omega : b = 0 ∨ b = 1) with rfl | rfl <;> decide
        rw [this, sN_xor hn (by decide) hb]
      show l.foldl sN (sN n (1 - b)) = l.foldl sN (sN n b) ^^^ itL l.length (lN 32768)
      rw [e, fold_xor hl sN_lt lN_lt]
    | succ p =>
      have hp' : p < l.length := by simpa using hp
      show (l.set p (1 - l[p])).foldl sN (sN n b) = l.foldl sN (sN n b) ^^^ itL ((l.length + 1) - (p + 1)) 32768
      rw [ih hl hp' sN_lt, Nat.add_sub_add_right]
theorem bits_len (v : Int) : (bitsL v).length = 8 := rfl
theorem bits_01 {l : List Int} : ∀ b ∈ l.flatMap bitsL, 0 ≤ b ∧ b < 2 := fun b hb => by
  obtain ⟨v, _, hv⟩ := List.mem_flatMap.mp hb
  simp only [bitsL, List.mem_cons, List.not_mem_nil, or_false] at hv
  omega
theorem flat_len {l : List Int} : (l.flatMap bitsL).length = 8 * l.length := by
  induction l with
  | nil => rfl
  | cons a l ih => rw [List.flatMap_cons, List.length_append, bits_len, ih, List.length_cons]; omega
theorem flat_set {l : List Int} {i j : Nat} {v x : Int} (hi : i < l.length) (hj : j < 8) (hv : bitsL v = (bitsL l[i]).set j x) : (l.set i v).flatMap bitsL = (l.flatMap bitsL).set (8 * i + j) x := by
  induction l generalizing i with
  | nil => exact absurd hi (by simp)
  | cons a l ih =>
    cases i with
    | zero =>
      rw [List.set_cons_zero, List.flatMap_cons, List.flatMap_cons, List.set_append_left _ _ (by rw [bits_len]; omega), hv]
      congr 2; simp
    | succ i =>
      rw [List.set_cons_succ, List.flatMap_cons, List.flatMap_cons, List.set_append_right _ _ (by rw [bits_len]; omega), ih (by simpa using hi) hv, bits_len]
      congr 2; omega
theorem flat_at {l : List Int} {i j : Nat} (hi : i < l.length) (hj : j < 8) : (l.flatMap bitsL)[8 * i + j]? = (bitsL l[i])[j]? := by
  induction l generalizing i with
  | nil => exact absurd hi (by simp)
  | cons a l ih =>
    rw [List.flatMap_cons]
    cases i with
    | zero => rw [List.getElem?_append_left (by rw [bits_len]; omega)]; congr 1; omega
    | succ i =>
      rw [List.getElem?_append_right (by rw [bits_len]; omega), bits_len, show 8 * (i + 1) + j - 8 = 8 * i + j by omega, ih (by simpa using hi)]
      rfl
theorem byte_flip : ∀ v : Fin 256, ∀ j : Fin 8, bitsL (Builtin.bitXor (v.val : Int) (128 / 2 ^ j.val)) = (bitsL v.val).set j.val (1 - (bitsL v.val).getD j.val 0) ∧ Builtin.bitXor (v.val : Int) (128 / 2 ^ j.val) < 256 := by decide +kernel
theorem crc_bits (l : List Int) : crcM l = (l.flatMap bitsL).foldl stepB 65535 := by
  unfold crcM
  rw [List.foldl_flatMap]; rfl
def crcN (l : List Int) : Nat := (toN (l.flatMap bitsL)).foldl sN 65535
theorem crc_N (l : List Int) : crcM l = (crcN l : Nat) := by
  rw [crc_bits, show (65535 : Int) = ((65535 : Nat) : Int) from rfl, fold_sN bits_01 (by decide)]; rfl
theorem crcN_lt (l : List Int) : crcN l < 65536 := fold_lt (by decide)
theorem flipB_len {o : List Int} {p : Int} : (flipB o p).length = o.length := List.length_set
theorem flipB_byte {o : List Int} {p : Int} (ho : ∀ v ∈ o, 0 ≤ v ∧ v < 256) (h0 : 0 ≤ p) (h1 : p < 8 * o.length) : ∀ v ∈ flipB o p, 0 ≤ v ∧ v < 256 := by
  intro v hv
  unfold flipB at hv
  rcases List.mem_or_eq_of_mem_set hv with h | h
  · exact ho v h
  · obtain ⟨b0, b1⟩ := ho _ (nI_in (l := o) (i := p / 8) (by omega) (by omega))
    have h2 := (byte_flip ⟨(nI o (p / 8)).toNat, by omega⟩ ⟨(p % 8).toNat, by omega⟩).2
    simp only [] at h2
    rw [Int.toNat_of_nonneg b0] at h2
    rw [← h] at h2
    refine ⟨?_, h2⟩
    rw [h]
    exact Bits.bitXor_nonneg b0 (Int.ediv_nonneg (by decide) (Int.le_of_lt (Int.pow_pos (by decide))))
theorem crcN_flip {o : List Int} {p : Int} (ho : ∀ v ∈ o, 0 ≤ v ∧ v < 256) (h0 : 0 ≤ p) (h1 : p < 8 * o.length) : crcN (flipB o p) = crcN o ^^^ itL (8 * o.length - p.toNat) 32768 := by
  obtain ⟨b0, b1⟩ := ho _ (nI_in (l := o) (i := p / 8) (by omega) (by omega))
  have hi : (p / 8).toNat < o.length := by omega
  have hj : (p % 8).toNat < 8 := by omega
  have h2 := (byte_flip ⟨(nI o (p / 8)).toNat, by omega⟩ ⟨(p % 8).toNat, hj⟩).1
  simp only [] at h2
  rw [Int.toNat_of_nonneg b0] at h2
  have e0 : nI o (p / 8) = o[(p / 8).toNat] := getD_at hi
  have hpl : p.toNat < (toN (o.flatMap bitsL)).length := by rw [toN, List.length_map, flat_len]; omega
  have e1 : (toN (o.flatMap bitsL))[p.toNat] = ((bitsL (nI o (p / 8))).getD (p % 8).toNat 0).toNat := by
    have h3 := flat_at hi hj
    have h4 : (toN (o.flatMap bitsL))[p.toNat]? = ((bitsL (nI o (p / 8)))[(p % 8).toNat]?).map Int.toNat := by
      rw [toN, List.getElem?_map, show p.toNat = 8 * (p / 8).toNat + (p % 8).toNat by omega, h3, e0]
    rw [List.getElem?_eq_getElem hpl, List.getElem?_eq_getElem (by rw [bits_len]; exact hj)] at h4
    rw [List.getD_eq_getElem?_getD, List.getElem?_eq_getElem (by rw [bits_len]; exact hj)]
    simpa using h4
  have e2 : toN ((flipB o p).flatMap bitsL) = (toN (o.flatMap bitsL)).set p.toNat (1 - (toN (o.flatMap bitsL))[p.toNat]) := by
    unfold flipB
    rw [flat_set hi hj (x := 1 - (bitsL (nI o (p / 8))).getD (p % 8).toNat 0) (by rw [h2, e0]), e1]
    unfold toN
    rw [List.map_set]
    have hb : 0 ≤ (bitsL (nI o (p / 8))).getD (p % 8).toNat 0 ∧ (bitsL (nI o (p / 8))).getD (p % 8).toNat 0 < 2 := by
      refine getD_all (P := fun b => 0 ≤ b ∧ b < 2) (fun b hb => ?_) (by decide) _
      simp only [bitsL, List.mem_cons, List.not_mem_nil, or_false] at hb
      omega
    congr 1
    · omega
    · omega
  unfold crcN
  rw [e2, fold_flip (fun b hb => ?_) hpl (by decide), toN, List.length_map, flat_len]
  obtain ⟨c, hc, rfl⟩ := List.mem_map.mp hb
  have := bits_01 c hc
  omega
theorem crcN_flips {ps : List Int} : ∀ {o : List Int} {N : Nat}, o.length = N → (∀ v ∈ o, 0 ≤ v ∧ v < 256) → (∀ p ∈ ps, 0 ≤ p ∧ p < 8 * N) → crcN (ps.foldl flipB o) = (ps.map fun p => 8 * N - p.toNat).foldl (fun s k => s ^^^ itL k 32768) (crcN o) := by
  induction ps with
  | nil => intros; rfl
  | cons p ps ih =>
    intro o N hN ho hp
    obtain ⟨p0, p1⟩ := hp p (.head _)
    show crcN (ps.foldl flipB (flipB o p)) = _
    rw [ih (by rw [flipB_len, hN]) (flipB_byte ho p0 (by omega)) fun p h => hp p (.tail _ h), crcN_flip ho p0 (by omega), hN]
    rfl
theorem crc_flips {ps : List Int} {o : List Int} (hl : o.length ≤ 200) (ho : ∀ v ∈ o, 0 ≤ v ∧ v < 256) (hp : ∀ p ∈ ps, 0 ≤ p ∧ p < 8 * o.length) (nd : ps.Nodup) (h1 : 1 ≤ ps.length) (h3 : ps.length ≤ 3) : crcM (ps.foldl flipB o) ≠ crcM o := by
  intro e
  rw [crc_N, crc_N] at e
  have e : crcN (ps.foldl flipB o) = crcN o := by omega
  rw [crcN_flips rfl ho hp] at e
  refine flips3 (by simpa using h1) (by simpa using h3) ?_ (fun k hk => ?_) _ (crcN_lt _) e
  · have : (ps.map fun p => 8 * o.length - p.toNat).Pairwise (· ≠ ·) := by
      rw [List.pairwise_map]
      refine List.Pairwise.imp_of_mem (fun ha hb h z => h ?_) nd
      have := hp _ ha; have := hp _ hb
      omega
    exact this
  · obtain ⟨p, h, rfl⟩ := List.mem_map.mp hk
    omega
/-! ### sums of numbers by xor: spans, what is left, how many ways -/
def spanS : List Nat → Nat → Prop
  | [], s => s = 0
  | x :: r, s => spanS r s ∨ spanS r (s ^^^ x)
theorem xor_can (a b : Nat) : a ^^^ b ^^^ b = a := by rw [Nat.xor_assoc, Nat.xor_self, Nat.xor_zero]
theorem xor_swap (a b c : Nat) : a ^^^ b ^^^ c = a ^^^ c ^^^ b := by rw [Nat.xor_assoc, Nat.xor_comm b c, ← Nat.xor_assoc]
theorem span_zero : ∀ l : List Nat, spanS l 0
  | [] => rfl
  | _ :: r => .inl (span_zero r)
theorem span_xor : ∀ {l : List Nat} {a b : Nat}, spanS l a → spanS l b → spanS l (a ^^^ b)
  | [], _, _, h1, h2 => by have h1 : _ = 0 := h1; have h2 : _ = 0 := h2; rw [h1, h2]; rfl
  | x :: r, a, b, h1, h2 => by
    rcases h1 with h1 | h1 <;> rcases h2 with h2 | h2
    · exact .inl (span_xor h1 h2)
    · exact .inr (by have := span_xor h1 h2; rwa [← Nat.xor_assoc] at this)
    · exact .inr (by have := span_xor h1 h2; rwa [xor_swap] at this)
    · refine .inl ?_
      have := span_xor h1 h2
      rwa [← Nat.xor_assoc, xor_swap a x b, xor_can] at this
theorem span_iff {l : List Nat} {a b : Nat} (h : spanS l b) : spanS l (a ^^^ b) ↔ spanS l a :=
  ⟨fun h1 => by have := span_xor h1 h; rwa [xor_can] at this, fun h1 => span_xor h1 h⟩
theorem span_lt {n : Nat} : ∀ {l : List Nat} {s : Nat}, (∀ x ∈ l, x < 2 ^ n) → spanS l s → s < 2 ^ n
  | [], s, _, h => by have h : s = 0 := h; rw [h]; exact Nat.pow_pos (by decide)
  | x :: r, s, hl, h => by
    have hr : ∀ y ∈ r, y < 2 ^ n := fun y hy => hl y (.tail _ hy)
    rcases h with h | h
    · exact span_lt hr h
    · have h1 := span_lt hr h
      have := Nat.xor_lt_two_pow h1 (hl x (.head _))
      rwa [xor_can] at this
/-- the kept numbers, by falling digits -/
abbrev Kp := List (Nat × Nat)
def redN (E : Kp) (t : Nat) : Nat := E.foldl (fun t e => if t.testBit e.1 then t ^^^ e.2 else t) t
structure GoodK (E : Kp) : Prop where
  s : E.Pairwise fun a b => b.1 < a.1
  b : ∀ e ∈ E, e.2.testBit e.1 = true ∧ e.2 < 2 ^ (e.1 + 1)
theorem GoodK.tail {e : Nat × Nat} {r : Kp} (h : GoodK (e :: r)) : GoodK r := ⟨(List.pairwise_cons.mp h.s).2, fun x hx => h.b x (.tail _ hx)⟩
theorem GoodK.small {e : Nat × Nat} {r : Kp} (h : GoodK (e :: r)) : ∀ x ∈ r, x.2 < 2 ^ e.1 := fun x hx => by
  have h1 := (List.pairwise_cons.mp h.s).1 x hx
  have h2 := (h.b x (.tail _ hx)).2
  exact Nat.lt_of_lt_of_le h2 (Nat.pow_le_pow_right (by decide) h1)
theorem red_high {g : Nat} : ∀ {E : Kp} (t : Nat), (∀ x ∈ E, x.2 < 2 ^ g) → ∀ j, g ≤ j → (redN E t).testBit j = t.testBit j
  | [], _, _, _, _ => rfl
  | e :: r, t, h, j, hj => by
    have hr : ∀ x ∈ r, x.2 < 2 ^ g := fun x hx => h x (.tail _ hx)
    show (redN r (if t.testBit e.1 then t ^^^ e.2 else t)).testBit j = _
    rw [red_high _ hr j hj]
    split
    · rw [Nat.testBit_xor, Nat.testBit_lt_two_pow (Nat.lt_of_lt_of_le (h e (.head _)) (Nat.pow_le_pow_right (by decide) hj)), Bool.xor_false]
    · rfl
theorem red_clear : ∀ {E : Kp} (t : Nat), GoodK E → ∀ e ∈ E, (redN E t).testBit e.1 = false
  | [], _, _, _, h => nomatch h
  | a :: r, t, G, e, h => by
    show (redN r (if t.testBit a.1 then t ^^^ a.2 else t)).testBit e.1 = false
    rcases List.mem_cons.mp h with rfl | h
    · rw [red_high _ G.small _ (Nat.le_refl _)]
      by_cases hb : t.testBit e.1 = true
      · rw [if_pos hb, Nat.testBit_xor, hb, (G.b e (.head _)).1]; rfl
      · rw [if_neg hb]; simpa using hb
    · exact red_clear _ G.tail e h
theorem red_span : ∀ (E : Kp) (t : Nat), spanS (E.map (·.2)) (redN E t ^^^ t)
  | [], t => by show t ^^^ t = 0; exact Nat.xor_self t
  | e :: r, t => by
    show spanS (e.2 :: r.map (·.2)) (redN r (if t.testBit e.1 then t ^^^ e.2 else t) ^^^ t)
    split
    · refine .inr ?_
      have := red_span r (t ^^^ e.2)
      rwa [← Nat.xor_assoc] at this
    · exact .inl (red_span r t)
theorem span_free : ∀ {E : Kp} {s : Nat}, GoodK E → spanS (E.map (·.2)) s → (∀ e ∈ E, s.testBit e.1 = false) → s = 0
  | [], _, _, h, _ => h
  | e :: r, s, G, h, z => by
    rcases h with h | h
    · exact span_free G.tail h fun x hx => z x (.tail _ hx)
    · have lt := span_lt (n := e.1) (fun x hx => by
        obtain ⟨y, hy, rfl⟩ := List.mem_map.mp hx
        exact G.small y hy) h
      have hb := Nat.testBit_lt_two_pow lt
      rw [Nat.testBit_xor, z e (.head _), (G.b e (.head _)).1] at hb
      cases hb
theorem red_zero {E : Kp} (G : GoodK E) (t : Nat) : redN E t = 0 ↔ spanS (E.map (·.2)) t := by
  have h1 := red_span E t
  constructor
  · intro h; rw [h, Nat.zero_xor] at h1; exact h1
  · intro h
    have h2 := span_xor h1 h
    rw [xor_can] at h2
    exact span_free G h2 (red_clear t G)
/-- how many ways there are to choose some of the numbers with a sum -/
def ways : List Nat → Nat → Nat
  | [], t => if t = 0 then 1 else 0
  | c :: r, t => ways r t + ways r (t ^^^ c)
theorem ways_snoc : ∀ (cs : List Nat) (c t : Nat), ways (cs ++ [c]) t = ways cs t + ways cs (t ^^^ c)
  | [], _, _ => rfl
  | x :: r, c, t => by
    show ways (r ++ [c]) t + ways (r ++ [c]) (t ^^^ x) = (ways r t + ways r (t ^^^ x)) + (ways r (t ^^^ c) + ways r (t ^^^ c ^^^ x))
    rw [ways_snoc r c t, ways_snoc r c (t ^^^ x), xor_swap t x c]; omega
/-- a kept number is put in -/
def insK (e : Nat × Nat) : Kp → Kp
  | [] => [e]
  | a :: r => if a.1 < e.1 then e :: a :: r else a :: insK e r
theorem insK_mem {e x : Nat × Nat} : ∀ {E : Kp}, x ∈ insK e E ↔ x = e ∨ x ∈ E
  | [] => by simp [insK]
  | a :: r => by
    unfold insK
    split
    · simp
    · rw [List.mem_cons, insK_mem (E := r), List.mem_cons]
      constructor
      · rintro (h | h | h)
        · exact .inr (.inl h)
        · exact .inl h
        · exact .inr (.inr h)
      · rintro (h | h | h)
        · exact .inr (.inl h)
        · exact .inl h
        · exact .inr (.inr h)
theorem insK_len {e : Nat × Nat} : ∀ {E : Kp}, (insK e E).length = E.length + 1
  | [] => rfl
  | a :: r => by
    unfold insK
    split
    · rfl
    · rw [List.length_cons, insK_len (E := r)]; rfl
theorem insK_good {e : Nat × Nat} : ∀ {E : Kp}, GoodK E → (∀ x ∈ E, x.1 ≠ e.1) → e.2.testBit e.1 = true ∧ e.2 < 2 ^ (e.1 + 1) → GoodK (insK e E)
  | [], _, _, hb => ⟨List.pairwise_singleton .., fun x hx => by rw [List.mem_singleton.mp hx]; exact hb⟩
  | a :: r, G, hn, hb => by
    have G2 := G
    unfold insK
    split
    · rename_i h
      refine ⟨List.pairwise_cons.mpr ⟨fun x hx => ?_, G.s⟩, fun x hx => ?_⟩
      · rcases List.mem_cons.mp hx with rfl | hx
        · exact h
        · exact Nat.lt_trans ((List.pairwise_cons.mp G.s).1 x hx) h
      · rcases List.mem_cons.mp hx with rfl | hx
        · exact hb
        · exact G.b x hx
    · rename_i h
      have ih := insK_good (e := e) G.tail (fun x hx => hn x (.tail _ hx)) hb
      refine ⟨List.pairwise_cons.mpr ⟨fun x hx => ?_, ih.s⟩, fun x hx => ?_⟩
      · rcases insK_mem.mp hx with rfl | hx
        · have := hn a (.head _); omega
        · exact (List.pairwise_cons.mp G.s).1 x hx
      · rcases List.mem_cons.mp hx with rfl | hx
        · exact G.b x (.head _)
        · exact ih.b x hx
theorem insK_span {e : Nat × Nat} : ∀ {E : Kp} {s : Nat}, spanS ((insK e E).map (·.2)) s ↔ spanS (E.map (·.2)) s ∨ spanS (E.map (·.2)) (s ^^^ e.2)
  | [], _ => Iff.rfl
  | a :: r, s => by
    unfold insK
    split
    · exact Iff.rfl
    · show (spanS ((insK e r).map (·.2)) s ∨ spanS ((insK e r).map (·.2)) (s ^^^ a.2)) ↔ _
      rw [insK_span (E := r), insK_span (E := r)]
      show _ ↔ (spanS (r.map (·.2)) s ∨ spanS (r.map (·.2)) (s ^^^ a.2)) ∨ (spanS (r.map (·.2)) (s ^^^ e.2) ∨ spanS (r.map (·.2)) (s ^^^ e.2 ^^^ a.2))
      rw [xor_swap s a.2 e.2]
      constructor
      · rintro ((h | h) | (h | h))
        · exact .inl (.inl h)
        · exact .inr (.inl h)
        · exact .inl (.inr h)
        · exact .inr (.inr h)
      · rintro ((h | h) | (h | h))
        · exact .inl (.inl h)
        · exact .inr (.inl h)
        · exact .inl (.inr h)
        · exact .inr (.inr h)
/-- the kept numbers after a further number -/
def stepK (E : Kp) (c : Nat) : Kp := if redN E c = 0 then E else insK (Nat.log2 (redN E c), redN E c) E
structure KeptOf (cs : List Nat) (E : Kp) : Prop where
  g : GoodK E
  s : ∀ s, spanS (E.map (·.2)) s ↔ ways cs s ≠ 0
  n : E.length ≤ cs.length
  w : ∀ t, spanS (E.map (·.2)) t → ways cs t = 2 ^ (cs.length - E.length)
theorem log2_bit {x : Nat} (h : x ≠ 0) : x.testBit (Nat.log2 x) = true ∧ x < 2 ^ (Nat.log2 x + 1) := by
  have h1 := Nat.lt_log2_self (n := x)
  have h2 := Nat.log2_self_le h
  refine ⟨?_, h1⟩
  rw [Nat.testBit_eq_decide_div_mod_eq, decide_eq_true_iff]
  have : x / 2 ^ Nat.log2 x = 1 := by
    have a : 1 ≤ x / 2 ^ Nat.log2 x := (Nat.le_div_iff_mul_le (Nat.pow_pos (by decide))).mpr (by omega)
    have b : x / 2 ^ Nat.log2 x < 2 := (Nat.div_lt_iff_lt_mul (Nat.pow_pos (by decide))).mpr (by rw [Nat.pow_succ] at h1; omega)
    omega
  rw [this]
theorem KeptOf.nil : KeptOf [] [] := ⟨⟨List.Pairwise.nil, fun _ h => nomatch h⟩, fun s => by show s = 0 ↔ (if s = 0 then 1 else 0) ≠ 0; by_cases h : s = 0 <;> simp [h], Nat.le_refl _, fun t h => by have h : t = 0 := h; subst h; rfl⟩
theorem KeptOf.add {cs : List Nat} {E : Kp} (K : KeptOf cs E) (c : Nat) : KeptOf (cs ++ [c]) (stepK E c) := by
  have rs := red_span E c
  unfold stepK
  by_cases h0 : redN E c = 0
  · rw [if_pos h0]
    have hc := (red_zero K.g c).mp h0
    have e : ∀ t, spanS (E.map (·.2)) (t ^^^ c) ↔ spanS (E.map (·.2)) t := fun t => span_iff hc
    refine ⟨K.g, fun s => ?_, by rw [List.length_append]; have := K.n; omega, fun t ht => ?_⟩
    · rw [ways_snoc]
      constructor
      · intro h; have := (K.s s).mp h; omega
      · intro h
        rcases Nat.eq_zero_or_pos (ways cs s) with z | z
        · exact (e s).mp ((K.s _).mpr (by omega))
        · exact (K.s s).mpr (by omega)
    · rw [ways_snoc, K.w t ht, K.w (t ^^^ c) ((e t).mpr ht), List.length_append]
      have := K.n
      show 2 ^ _ + 2 ^ _ = 2 ^ (cs.length + 1 - E.length)
      rw [show cs.length + 1 - E.length = (cs.length - E.length) + 1 by omega, Nat.pow_succ]; omega
  · rw [if_neg h0]
    have hb := log2_bit h0
    have hn : ∀ x ∈ E, x.1 ≠ Nat.log2 (redN E c) := fun x hx e => by
      have := red_clear c K.g x hx
      rw [e, hb.1] at this; cases this
    have hc : ¬ spanS (E.map (·.2)) c := fun z => h0 ((red_zero K.g c).mpr z)
    have ec : ∀ t, spanS (E.map (·.2)) (t ^^^ redN E c) ↔ spanS (E.map (·.2)) (t ^^^ c) := fun t => by
      have := span_iff (a := t ^^^ redN E c) rs
      rw [← this, ← Nat.xor_assoc, xor_can]
    have not2 : ∀ t, spanS (E.map (·.2)) t → ¬ spanS (E.map (·.2)) (t ^^^ c) := fun t h1 h2 => hc (by
      have := span_xor h1 h2
      rwa [← Nat.xor_assoc, Nat.xor_self, Nat.zero_xor] at this)
    have w0 : ∀ t, ¬ spanS (E.map (·.2)) t → ways cs t = 0 := fun t h => by
      rcases Nat.eq_zero_or_pos (ways cs t) with z | z
      · exact z
      · exact absurd ((K.s t).mpr (by omega)) h
    refine ⟨insK_good K.g hn hb, fun s => ?_, by rw [insK_len, List.length_append]; have := K.n; simp only [List.length_cons, List.length_nil]; omega, fun t ht => ?_⟩
    · rw [insK_span, ways_snoc]
      show _ ∨ spanS (E.map (·.2)) (s ^^^ redN E c) ↔ _
      rw [ec, K.s s, K.s (s ^^^ c)]; omega
    · rw [insK_span] at ht
      have ht : _ ∨ spanS (E.map (·.2)) (t ^^^ redN E c) := ht
      rw [ec] at ht
      have := K.n
      rw [ways_snoc, insK_len, List.length_append, show cs.length + [c].length - (E.length + 1) = cs.length - E.length by simp only [List.length_cons, List.length_nil]; omega]
      rcases ht with h | h
      · rw [K.w t h, w0 _ (not2 t h)]
        rfl
      · have : ¬ spanS (E.map (·.2)) t := fun z => not2 t z h
        rw [w0 t this, K.w _ h, Nat.zero_add]
def keptN (cs : List Nat) : Kp := cs.foldl stepK []
theorem kept_of : ∀ (cs : List Nat), KeptOf cs (keptN cs) := fun cs => by
  have : ∀ (r l : List Nat) (E : Kp), KeptOf l E → KeptOf (l ++ r) (r.foldl stepK E) := by
    intro r
    induction r with
    | nil => intro l E h; simpa using h
    | cons c r ih =>
      intro l E h
      have := ih (l ++ [c]) (stepK E c) (h.add c)
      rwa [List.append_assoc] at this
  exact this cs [] [] KeptOf.nil
theorem ways_ok (cs : List Nat) (t : Nat) : ways cs t = if redN (keptN cs) t = 0 then 2 ^ (cs.length - (keptN cs).length) else 0 := by
  have K := kept_of cs
  by_cases h : redN (keptN cs) t = 0
  · rw [if_pos h]; exact K.w t ((red_zero K.g t).mp h)
  · rw [if_neg h]
    rcases Nat.eq_zero_or_pos (ways cs t) with z | z
    · exact z
    · exact absurd ((red_zero K.g t).mpr ((K.s t).mpr (by omega))) h
local macro_rules | `(tactic| simp? [$xs,*]) => `(tactic| simp -implicitDefEqProofs (disch := first | omega | (simp; done) | (simp; omega)) [w_seq, w_skip, w_th1, w_th2, w_th3, w_th4, w_th5, w_set, w_if, w_ret, w_do, w_brk, w_cont, w_raise, w_go1, w_go2, w_goi, w_bd1, w_bd2, w_bdi, w_tn1, w_tn2, w_tn3, w_tn4, w_tn5, w_gv0, w_gvs, w_gvn, w_var, w_c, w_ag0, w_ag1, w_ag2, w_op, w_eif, w_cof, w_eof, w_and, w_or, w_not, w_tru, w_andv, w_orv, w_for, w_iop, w_iseq, w_call, w_po0, w_po1, w_po2, w_put, w_mut, w_lim, w_comp, w_aug, w_slv, w_pt0, w_pt1, w_yes, w_gvar, w_try, w_as, w_su, w_isx, w_rid1, w_rid2, w_run, w_end1, w_end2, w_end3, w_outs0, w_outs1, w_mul, w_rep, w_div, w_mod, w_shl, w_shr, w_lst, w_tup, w_cat, w_catS, w_catD, w_repD, w_rg1, w_rg2, w_app, w_ext, w_ins, w_toN, w_eqI, w_eqS, w_eqL, w_ix0, w_ix1, w_ix2, w_ix3, w_ix4, w_ix5, w_iN0, w_iN1, w_iN2, w_iN3, w_iN4, w_rgl, w_addI, w_addI2, w_subI, w_subI2, w_andI, w_orI, w_xorI, w_negI, w_ltI, w_leI, w_gtI, w_geI, w_eqD, w_neD, w_isN1, w_isN2, w_isN3, w_isN4, w_isN5, w_isN6, w_isN7, w_isN8, w_isN9, w_ixL, w_ixR, w_ixT, w_lenL, w_lenR, w_lenT, w_lenS, w_listL, w_listR, w_listT, w_tupleL, w_tupleR, w_tupleT, w_intI, w_intB, w_max2, w_min2, w_sumL, w_notB, w_isi, w_ty1, w_ty2, w_ty3, w_ty4, w_ty5, w_ty6, w_ty7, w_tr1, w_tr2, w_tr3, w_tr5, w_tr6, w_tr7, w_sq1, w_sq2, w_sq3, w_sq4, w_zip, w_slL, w_slR, w_len63, w_nat, w_zipl, w_pow, w_make, w_fldS, w_fld, w_meth, w_un, w_gt2, w_chLe, w_cLe, w_atI, w_at2, w_at3, w_at4, w_at5, w_at6, w_at7, w_at8, w_lku, w_drop0, w_cutLH, w_cutN, w_cutM1, w_atN, w_catT, w_gt3, w_eeq, w_ng1, w_ng2, w_iso, w_slU, w_mulI, w_bm, w_isT, w_isL, w_isLr, w_isS, w_keepC, w_keepE, w_slPv, w_slPo, w_glst, w_gal0, w_gal1, w_gt4, w_slo, w_chT, w_chLL, w_chTL, w_chTT, w_chT1, w_chT0, w_raiseA, w_xf1, u_sub_InvalidUnknowns_InvalidPlan, u_sub_InvalidUnknowns_InvalidUnknowns, u_errs_InvalidUnknowns, u_mem_InvalidUnknowns, u_ne_add_kept, u_nb_add_kept, u_ne_add_reduced, u_nb_add_reduced, u_ne_kept_add, u_nb_kept_add, u_ne_kept_reduced, u_nb_kept_reduced, u_ne_reduced_add, u_nb_reduced_add, u_ne_reduced_kept, u_nb_reduced_kept, v_flatI, v_flatB, v_flatS, v_flatN, v_agf, v_fldC, v_putF, v_methO, v_mutF, v_extT, v_dic, v_dput, v_dgetO, v_key1, v_key2, v_frzS, v_frzE, v_frz1, v_keys, $xs,*])
local macro_rules | `(tactic| simp_all? [$xs,*]) => `(tactic| (conv => (arg 1; simp -implicitDefEqProofs (disch := first | omega | (simp; done) | (simp; omega)) [w_seq, w_skip, w_th1, w_th2, w_th3, w_th4, w_th5, w_set, w_if, w_ret, w_do, w_brk, w_cont, w_raise, w_go1, w_go2, w_goi, w_bd1, w_bd2, w_bdi, w_tn1, w_tn2, w_tn3, w_tn4, w_tn5, w_gv0, w_gvs, w_gvn, w_var, w_c, w_ag0, w_ag1, w_ag2, w_op, w_eif, w_cof, w_eof, w_and, w_or, w_not, w_tru, w_andv, w_orv, w_for, w_iop, w_iseq, w_call, w_po0, w_po1, w_po2, w_put, w_mut, w_lim, w_comp, w_aug, w_slv, w_pt0, w_pt1, w_yes, w_gvar, w_try, w_as, w_su, w_isx, w_rid1, w_rid2, w_run, w_end1, w_end2, w_end3, w_outs0, w_outs1, w_mul, w_rep, w_div, w_mod, w_shl, w_shr, w_lst, w_tup, w_cat, w_catS, w_catD, w_repD, w_rg1, w_rg2, w_app, w_ext, w_ins, w_toN, w_eqI, w_eqS, w_eqL, w_ix0, w_ix1, w_ix2, w_ix3, w_ix4, w_ix5, w_iN0, w_iN1, w_iN2, w_iN3, w_iN4, w_rgl, w_addI, w_addI2, w_subI, w_subI2, w_andI, w_orI, w_xorI, w_negI, w_ltI, w_leI, w_gtI, w_geI, w_eqD, w_neD, w_isN1, w_isN2, w_isN3, w_isN4, w_isN5, w_isN6, w_isN7, w_isN8, w_isN9, w_ixL, w_ixR, w_ixT, w_lenL, w_lenR, w_lenT, w_lenS, w_listL, w_listR, w_listT, w_tupleL, w_tupleR, w_tupleT, w_intI, w_intB, w_max2, w_min2, w_sumL, w_notB, w_isi, w_ty1, w_ty2, w_ty3, w_ty4, w_ty5, w_ty6, w_ty7, w_tr1, w_tr2, w_tr3, w_tr5, w_tr6, w_tr7, w_sq1, w_sq2, w_sq3, w_sq4, w_zip, w_slL, w_slR, w_len63, w_nat, w_zipl, w_pow, w_make, w_fldS, w_fld, w_meth, w_un, w_gt2, w_chLe, w_cLe, w_atI, w_at2, w_at3, w_at4, w_at5, w_at6, w_at7, w_at8, w_lku, w_drop0, w_cutLH, w_cutN, w_cutM1, w_atN, w_catT, w_gt3, w_eeq, w_ng1, w_ng2, w_iso, w_slU, w_mulI, w_bm, w_isT, w_isL, w_isLr, w_isS, w_keepC, w_keepE, w_slPv, w_slPo, w_glst, w_gal0, w_gal1, w_gt4, w_slo, w_chT, w_chLL, w_chTL, w_chTT, w_chT1, w_chT0, w_raiseA, w_xf1, u_sub_InvalidUnknowns_InvalidPlan, u_sub_InvalidUnknowns_InvalidUnknowns, u_errs_InvalidUnknowns, u_mem_InvalidUnknowns, u_ne_add_kept, u_nb_add_kept, u_ne_add_reduced, u_nb_add_reduced, u_ne_kept_add, u_nb_kept_add, u_ne_kept_reduced, u_nb_kept_reduced, u_ne_reduced_add, u_nb_reduced_add, u_ne_reduced_kept, u_nb_reduced_kept, v_flatI, v_flatB, v_flatS, v_flatN, v_agf, v_fldC, v_putF, v_methO, v_mutF, v_extT, v_dic, v_dput, v_dgetO, v_key1, v_key2, v_frzS, v_frzE, v_frz1, v_keys, $xs,*])))
/-! ### Span: numbers kept under their highest digits -/
abbrev Ent := Nat × Nat × List Int
abbrev Ks := List Ent
def entD (e : Ent) : Dt := .tup [.int (e.2.1 : Int), .lst (e.2.2.map .int)]
def ksD (D : Ks) : List (Dt × Dt) := D.map fun e => (.int (e.1 : Int), entD e)
def spanD (D : Ks) : Dt := .obj "Span" [("kept", .dic (ksD D))]
def mixP (a b : List Int) : List Int := (a.filter fun v => !decide (v ∈ b)) ++ b.filter fun v => !decide (v ∈ a)
def stepR (s : Nat × List Int) (e : Ent) : Nat × List Int := if s.1.testBit e.1 then (s.1 ^^^ e.2.1, mixP s.2 e.2.2) else s
def red3 (E : Ks) (s : Nat × List Int) : Nat × List Int := E.foldl stepR s
abbrev kpOf (E : Ks) : Kp := E.map fun e => (e.1, e.2.1)
theorem red3_1 : ∀ (E : Ks) (s : Nat × List Int), (red3 E s).1 = redN (kpOf E) s.1
  | [], _ => rfl
  | e :: r, s => by
    show (red3 r (stepR s e)).1 = redN (kpOf r) (if s.1.testBit e.1 then s.1 ^^^ e.2.1 else s.1)
    rw [red3_1 r]
    unfold stepR
    split <;> rfl
def totP (E : Ks) : Nat := (E.map fun e => e.2.2.length).sum
theorem mix_len (a b : List Int) : (mixP a b).length ≤ a.length + b.length := by
  unfold mixP
  rw [List.length_append]
  have := List.length_filter_le (fun v => !decide (v ∈ b)) a
  have := List.length_filter_le (fun v => !decide (v ∈ a)) b
  omega
theorem red3_len : ∀ (E : Ks) (s : Nat × List Int), (red3 E s).2.length ≤ s.2.length + totP E
  | [], s => Nat.le_add_right _ _
  | e :: r, s => by
    show (red3 r (stepR s e)).2.length ≤ s.2.length + (e.2.2.length + totP r)
    have h := red3_len r (stepR s e)
    have : (stepR s e).2.length ≤ s.2.length + e.2.2.length := by
      unfold stepR
      split
      · exact mix_len _ _
      · exact Nat.le_add_right _ _
    omega
structure SpanI (D E : Ks) : Prop where
  p : D.Perm E
  g : GoodK (kpOf E)
  d : ∀ e ∈ E, e.1 < 16
  t : totP E + 1 ≤ 2 ^ E.length
theorem desc_len : ∀ (E : Kp), (E.Pairwise fun a b => b.1 < a.1) → ∀ n, (∀ e ∈ E, e.1 < n) → E.length ≤ n
  | [], _, _, _ => Nat.zero_le _
  | e :: r, h, n, hn => by
    have h1 := desc_len r (List.pairwise_cons.mp h).2 e.1 (List.pairwise_cons.mp h).1
    have h2 := hn e (.head _)
    rw [List.length_cons]; omega
theorem SpanI.len {D E : Ks} (I : SpanI D E) : E.length ≤ 16 := by
  have := desc_len (kpOf E) I.g.s 16 fun e he => by
    obtain ⟨x, hx, rfl⟩ := List.mem_map.mp he
    exact I.d x hx
  rwa [List.length_map] at this
theorem SpanI.tot {D E : Ks} (I : SpanI D E) : totP E ≤ 100000 := by
  have h1 := I.t
  have h2 : 2 ^ E.length ≤ 2 ^ 16 := Nat.pow_le_pow_right (by decide) I.len
  have h3 : 2 ^ 16 = 65536 := by decide
  omega
theorem SpanI.nd {D E : Ks} (I : SpanI D E) : (D.map (·.1)).Nodup := by
  have h := I.g.s
  unfold kpOf at h
  rw [List.pairwise_map] at h
  have h2 : (E.map (·.1)).Nodup := by rw [List.Nodup, List.pairwise_map]; exact h.imp fun h e => by omega
  exact (I.p.map (·.1)).nodup_iff.mpr h2
theorem SpanI.digs {D E : Ks} (I : SpanI D E) : sortedRD [.dic (ksD D)] = some (.lst (E.map fun e => .int (e.1 : Int))) := by
  have hk : (ksD D).map (·.1) = (D.map fun e => (e.1 : Int)).map .int := by unfold ksD; rw [List.map_map, List.map_map]; rfl
  have h := I.g.s
  unfold kpOf at h
  rw [List.pairwise_map] at h
  have e : E.map (fun e => (e.1 : Int)) = (sortI (D.map fun e => (e.1 : Int))).reverse := by
    refine rev_one ((I.p.symm.map _).trans (sortI_perm _).symm) ?_ (sortI_sorted _)
    rw [List.pairwise_map]
    exact h.imp fun h => by have : _ < _ := h; omega
  show (match intsD ((ksD D).map (·.1)) with | some ns => some (Dt.lst ((sortI ns).reverse.map .int)) | none => none) = _
  rw [hk, intsD_map]
  show some (Dt.lst ((sortI _).reverse.map .int)) = _
  rw [← e, List.map_map]; rfl
theorem SpanI.get {D E : Ks} (I : SpanI D E) {e : Ent} (he : e ∈ E) : dGetD [.dic (ksD D), .int (e.1 : Int)] = some (entD e) := by
  have hm : e ∈ D := I.p.mem_iff.mpr he
  have nd := I.nd
  have e0 : dGetD [.dic (ksD D), .int (e.1 : Int)] = getL (ksD D) (.inl (e.1 : Int)) := rfl
  rw [e0]
  unfold getL ksD
  rw [List.find?_map]
  have : D.find? ((fun p : Dt × Dt => eqKD p.1 (.inl (e.1 : Int))) ∘ fun e : Ent => (Dt.int (e.1 : Int), entD e)) = some e := by
    have e2 : ((fun p : Dt × Dt => eqKD p.1 (.inl (e.1 : Int))) ∘ fun e : Ent => (Dt.int (e.1 : Int), entD e)) = fun x : Ent => decide ((x.1 : Int) = (e.1 : Int)) := rfl
    rw [e2]
    cases hf : D.find? fun x : Ent => decide ((x.1 : Int) = (e.1 : Int)) with
    | none => have := List.find?_eq_none.mp hf e hm; simp at this
    | some x =>
      have h1 := List.find?_some hf
      have h2 := List.mem_of_find?_eq_some hf
      have h1 : x.1 = e.1 := by have := of_decide_eq_true h1; omega
      obtain ⟨i, hi, rfl⟩ := List.mem_iff_getElem.mp h2
      obtain ⟨j, hj, rfl⟩ := List.mem_iff_getElem.mp hm
      have := (List.pairwise_iff_getElem.mp nd)
      rcases Nat.lt_trichotomy i j with h | h | h
      · have := this i j (by simpa using hi) (by simpa using hj) h
        simp at this; exact absurd h1 this
      · subst h; rfl
      · have := this j i (by simpa using hj) (by simpa using hi) h
        simp at this; exact absurd h1.symm this
  rw [this]; rfl
theorem pow_at {g : Nat} (h : g < 16) : atI (k_POWERS.map Dt.int) (g : Int) = some (.int ((2 ^ g : Nat) : Int)) := by
  match g, h with
  | 0, _ => rfl
  | 1, _ => rfl
  | 2, _ => rfl
  | 3, _ => rfl
  | 4, _ => rfl
  | 5, _ => rfl
  | 6, _ => rfl
  | 7, _ => rfl
  | 8, _ => rfl
  | 9, _ => rfl
  | 10, _ => rfl
  | 11, _ => rfl
  | 12, _ => rfl
  | 13, _ => rfl
  | 14, _ => rfl
  | 15, _ => rfl
  | g + 16, h => exact absurd h (by omega)
theorem bit_mod (t g : Nat) : (t : Int) / ((2 ^ g : Nat) : Int) % 2 = if t.testBit g then 1 else 0 := by
  rw [Nat.testBit_eq_decide_div_mod_eq]
  by_cases h : t / 2 ^ g % 2 = 1
  · rw [if_pos (decide_eq_true h)]; omega
  · rw [if_neg (by simpa using h)]; omega
abbrev Es (S : Dt) (t : Nat) (ps : List Int) (a3 a4 a5 a6 : Option Dt) : Env := [some S, some (.int (t : Int)), some (.lst (ps.map .int)), a3, a4, a5, a6, none]
theorem mix_ok {ps m : List Int} : ((ps.filter fun v => !decide (v ∈ m)).map Dt.int) ++ ((m.filter fun v => !decide (v ∈ ps)).map Dt.int) = (mixP ps m).map .int := by unfold mixP; rw [List.map_append]
theorem red_turn_o {D E : Ks} (I : SpanI D E) {e : Ent} (he : e ∈ E) {t : Nat} {ps : List Int} (hp : ps.length ≤ 1000000) (a4 a5 a6 : Option Dt) :
    ∃ b4 b5 b6, (sIf (cOf (eOp eqD [.val (eOp modD [.val (eOp divD [.val (eVar 1), .val (eOp ixD [.val (eC (.tup (k_POWERS.map .int))), .val (eVar 3)])]), .val (eC (.int 2))]), .val (eC (.int 1))]))
    (sSeq (sUn (eOp dGetD [.fld ["Span"] 0 "kept", .val (eVar 3)]) (gTupD [(gVar 4), (gVar 5)]))
    (sSeq (sSet 1 (eCall den_exclusive [.val (eVar 1), .val (eVar 4)] []))
    (sSeq (sSet 6 (eComp (iSeqD (eVar 2)) [7] (gVar 7) (cOf (eOp notInD [.val (eVar 7), .val (eVar 5)])) (eVar 7)))
    ((sSet 2 (eOp addD [.val (eVar 6), .val (eComp (iSeqD (eVar 5)) [7] (gVar 7) (cOf (eOp notInD [.val (eVar 7), .val (eVar 2)])) (eVar 7))]))))))
    sSkip) (Es (spanD D) t ps (some (.int (e.1 : Int))) a4 a5 a6) = .nx (Es (spanD D) (stepR (t, ps) e).1 (stepR (t, ps) e).2 (some (.int (e.1 : Int))) b4 b5 b6) := by
  have pa := pow_at (I.d e he)
  have gt := I.get he
  have bm := bit_mod t e.1
  have ml : e.2.2.length ≤ 100000 := by
    have h1 := I.tot
    have : ∀ (E : Ks), e ∈ E → e.2.2.length ≤ totP E := by
      intro E
      induction E with
      | nil => intro h; cases h
      | cons a r ih =>
        intro h
        show _ ≤ a.2.2.length + totP r
        rcases List.mem_cons.mp h with rfl | h
        · exact Nat.le_add_right _ _
        · have := ih h; omega
    have := this E he
    omega
  have p0 : (0 : Int) < ((2 ^ e.1 : Nat) : Int) := by have : 0 < 2 ^ e.1 := Nat.pow_pos (by decide); omega
  have p1 : ((2 ^ e.1 : Nat) : Int) < 4611686018427387904 := by
    have h1 : 2 ^ e.1 ≤ 2 ^ 15 := Nat.pow_le_pow_right (by decide) (by have := I.d e he; omega)
    have h2 : 2 ^ 15 = 32768 := by decide
    omega
  unfold stepR
  obtain ⟨g, x, m⟩ := e
  simp only [] at *
  unfold entD at gt
  simp only [] at gt
  generalize ((2 ^ g : Nat) : Int) = w at *
  have w0 : ¬ w = 0 := by omega
  by_cases hb : t.testBit g = true
  · rw [if_pos hb] at bm ⊢
    have xo := exclusive_ok (t : Int) (x : Int)
    rw [Bits.bitXor_pp (Int.natCast_nonneg _) (Int.natCast_nonneg _)] at xo
    have xo : den_exclusive [.int (t : Int), .int (x : Int)] = .ok (.int ((t ^^^ x : Nat) : Int)) [] := xo
    have c1 := fun a5' => comp_filterC (i := 7) (c := cOf (eOp notInD [.val (eVar 7), .val (eVar 5)])) (e := eVar 7) Dt.int (fun v => !decide (v ∈ m)) Dt.int (ρ := [some (spanD D), some (.int ((t ^^^ x : Nat) : Int)), some (.lst (ps.map .int)), some (.int (g : Int)), some (.int (x : Int)), some (.lst (m.map .int)), a5', none]) (by simp) ps (fun v _ => by
      have := x_notInL (v := v) (l := m)
      generalize m.map Dt.int = MM at *
      generalize ps.map Dt.int = PP at *
      generalize spanD D = SD at *
      simp? [this]) (fun v _ _ => rfl)
    have c2 := fun a5' => comp_filterC (i := 7) (c := cOf (eOp notInD [.val (eVar 7), .val (eVar 2)])) (e := eVar 7) Dt.int (fun v => !decide (v ∈ ps)) Dt.int (ρ := [some (spanD D), some (.int ((t ^^^ x : Nat) : Int)), some (.lst (ps.map .int)), some (.int (g : Int)), some (.int (x : Int)), some (.lst (m.map .int)), a5', none]) (by simp) m (fun v _ => by
      have := x_notInL (v := v) (l := ps)
      generalize m.map Dt.int = MM at *
      generalize ps.map Dt.int = PP at *
      generalize spanD D = SD at *
      simp? [this]) (fun v _ _ => rfl)
    have l1 : (ps.map Dt.int).length ≤ 16777216 := by rw [List.length_map]; omega
    have l2 : (m.map Dt.int).length ≤ 16777216 := by rw [List.length_map]; omega
    have l3 : ((ps.filter fun v => !decide (v ∈ m)).map Dt.int).length + ((m.filter fun v => !decide (v ∈ ps)).map Dt.int).length ≤ 16777216 := by
      rw [List.length_map, List.length_map]
      have := List.length_filter_le (fun v => !decide (v ∈ m)) ps
      have := List.length_filter_le (fun v => !decide (v ∈ ps)) m
      omega
    have mk := mix_ok (ps := ps) (m := m)
    refine ⟨some (.int (x : Int)), some (.lst (m.map .int)), some (.lst ((ps.filter fun v => !decide (v ∈ m)).map .int)), ?_⟩
    unfold Es
    rw [← mk]
    have c1 := c1 a6
    have c2 := c2 (some (.lst ((ps.filter fun v => !decide (v ∈ m)).map .int)))
    generalize (ps.filter fun v => !decide (v ∈ m)).map Dt.int = F1 at *
    generalize (m.filter fun v => !decide (v ∈ ps)).map Dt.int = F2 at *
    generalize m.map Dt.int = MM at *
    generalize ps.map Dt.int = PP at *
    unfold spanD at *
    generalize ksD D = DD at *
    generalize ((t ^^^ x : Nat) : Int) = tx at *
    generalize k_POWERS.map Dt.int = PW at *
    simp? [pa, gt, bm, w0, p0, p1, xo, c1, c2, l1, l2, l3]
  · rw [if_neg hb] at bm ⊢
    refine ⟨a4, a5, a6, ?_⟩
    unfold Es
    generalize ps.map Dt.int = PP at *
    unfold spanD at *
    generalize ksD D = DD at *
    generalize k_POWERS.map Dt.int = PW at *
    simp? [pa, bm, w0, p0, p1]
/-! ### what is left of a number; numbers added -/
theorem wp_th1 {ρ : Env} {b : SM} {Q : Sr → Prop} (h : Wp (b ρ) Q) : Wp ((Sr.nx ρ).then b) Q := h
theorem totP_take : ∀ (E : Ks) (i : Nat), totP (E.take i) ≤ totP E
  | [], i => by rw [List.take_nil]; exact Nat.le_refl _
  | e :: r, 0 => Nat.zero_le _
  | e :: r, i + 1 => by
    show e.2.2.length + totP (r.take i) ≤ e.2.2.length + totP r
    have := totP_take r i
    omega
theorem red3_snoc (l : Ks) (e : Ent) (s : Nat × List Int) : red3 (l ++ [e]) s = stepR (red3 l s) e := by unfold red3; rw [List.foldl_append]; rfl
theorem wp_env2 {s : SM} {ρ ρ' : Env} {Q : Sr → Prop} (h : ρ = ρ') (k : Wp (s ρ') Q) : Wp (s ρ) Q := by subst h; exact k
theorem red_turn {D E : Ks} (I : SpanI D E) {e : Ent} (he : e ∈ E) {t : Nat} {ps : List Int} (hp : ps.length ≤ 1000000) (a4 a5 a6 : Option Dt) :
    ∃ b4 b5 b6, (sIf (cOf (eOp eqD [.val (eOp modD [.val (eOp divD [.val (eVar 1), .val (eOp ixD [.val (eC (.tup (k_POWERS.map .int))), .val (eVar 3)])]), .val (eC (.int 2))]), .val (eC (.int 1))]))
    (sSeq (sUn (eOp dGetD [.val (eFld ["Span"] "kept" (eVar 0)), .val (eVar 3)]) (gTupD [(gVar 4), (gVar 5)]))
    (sSeq (sSet 1 (eCall den_exclusive [.val (eVar 1), .val (eVar 4)] []))
    (sSeq (sSet 6 (eComp (iSeqD (eVar 2)) [7] (gVar 7) (cOf (eOp notInD [.val (eVar 7), .val (eVar 5)])) (eVar 7)))
    ((sSet 2 (eOp addD [.val (eVar 6), .val (eComp (iSeqD (eVar 5)) [7] (gVar 7) (cOf (eOp notInD [.val (eVar 7), .val (eVar 2)])) (eVar 7))]))))))
    sSkip) (Es (spanD D) t ps (some (.int (e.1 : Int))) a4 a5 a6) = .nx (Es (spanD D) (stepR (t, ps) e).1 (stepR (t, ps) e).2 (some (.int (e.1 : Int))) b4 b5 b6) := by
  have pa := pow_at (I.d e he)
  have gt := I.get he
  have bm := bit_mod t e.1
  have ml : e.2.2.length ≤ 100000 := by
    have h1 := I.tot
    have : ∀ (E : Ks), e ∈ E → e.2.2.length ≤ totP E := by
      intro E
      induction E with
      | nil => intro h; cases h
      | cons a r ih =>
        intro h
        show _ ≤ a.2.2.length + totP r
        rcases List.mem_cons.mp h with rfl | h
        · exact Nat.le_add_right _ _
        · have := ih h; omega
    have := this E he
    omega
  have p0 : (0 : Int) < ((2 ^ e.1 : Nat) : Int) := by have : 0 < 2 ^ e.1 := Nat.pow_pos (by decide); omega
  have p1 : ((2 ^ e.1 : Nat) : Int) < 4611686018427387904 := by
    have h1 : 2 ^ e.1 ≤ 2 ^ 15 := Nat.pow_le_pow_right (by decide) (by have := I.d e he; omega)
    have h2 : 2 ^ 15 = 32768 := by decide
    omega
  unfold stepR
  obtain ⟨g, x, m⟩ := e
  simp only [] at *
  unfold entD at gt
  simp only [] at gt
  generalize ((2 ^ g : Nat) : Int) = w at *
  have w0 : ¬ w = 0 := by omega
  by_cases hb : t.testBit g = true
  · rw [if_pos hb] at bm ⊢
    have xo := exclusive_ok (t : Int) (x : Int)
    rw [Bits.bitXor_pp (Int.natCast_nonneg _) (Int.natCast_nonneg _)] at xo
    have xo : den_exclusive [.int (t : Int), .int (x : Int)] = .ok (.int ((t ^^^ x : Nat) : Int)) [] := xo
    have c1 := fun a5' => comp_filterC (i := 7) (c := cOf (eOp notInD [.val (eVar 7), .val (eVar 5)])) (e := eVar 7) Dt.int (fun v => !decide (v ∈ m)) Dt.int (ρ := [some (spanD D), some (.int ((t ^^^ x : Nat) : Int)), some (.lst (ps.map .int)), some (.int (g : Int)), some (.int (x : Int)), some (.lst (m.map .int)), a5', none]) (by simp) ps (fun v _ => by
      have := x_notInL (v := v) (l := m)
      generalize m.map Dt.int = MM at *
      generalize ps.map Dt.int = PP at *
      generalize spanD D = SD at *
      simp? [this]) (fun v _ _ => rfl)
    have c2 := fun a5' => comp_filterC (i := 7) (c := cOf (eOp notInD [.val (eVar 7), .val (eVar 2)])) (e := eVar 7) Dt.int (fun v => !decide (v ∈ ps)) Dt.int (ρ := [some (spanD D), some (.int ((t ^^^ x : Nat) : Int)), some (.lst (ps.map .int)), some (.int (g : Int)), some (.int (x : Int)), some (.lst (m.map .int)), a5', none]) (by simp) m (fun v _ => by
      have := x_notInL (v := v) (l := ps)
      generalize m.map Dt.int = MM at *
      generalize ps.map Dt.int = PP at *
      generalize spanD D = SD at *
      simp? [this]) (fun v _ _ => rfl)
    have l1 : (ps.map Dt.int).length ≤ 16777216 := by rw [List.length_map]; omega
    have l2 : (m.map Dt.int).length ≤ 16777216 := by rw [List.length_map]; omega
    have l3 : ((ps.filter fun v => !decide (v ∈ m)).map Dt.int).length + ((m.filter fun v => !decide (v ∈ ps)).map Dt.int).length ≤ 16777216 := by
      rw [List.length_map, List.length_map]
      have := List.length_filter_le (fun v => !decide (v ∈ m)) ps
      have := List.length_filter_le (fun v => !decide (v ∈ ps)) m
      omega
    have mk := mix_ok (ps := ps) (m := m)
    refine ⟨some (.int (x : Int)), some (.lst (m.map .int)), some (.lst ((ps.filter fun v => !decide (v ∈ m)).map .int)), ?_⟩
    unfold Es
    rw [← mk]
    have c1 := c1 a6
    have c2 := c2 (some (.lst ((ps.filter fun v => !decide (v ∈ m)).map .int)))
    generalize (ps.filter fun v => !decide (v ∈ m)).map Dt.int = F1 at *
    generalize (m.filter fun v => !decide (v ∈ ps)).map Dt.int = F2 at *
    generalize m.map Dt.int = MM at *
    generalize ps.map Dt.int = PP at *
    unfold spanD at *
    generalize ksD D = DD at *
    generalize ((t ^^^ x : Nat) : Int) = tx at *
    generalize k_POWERS.map Dt.int = PW at *
    simp? [pa, gt, bm, w0, p0, p1, xo, c1, c2, l1, l2, l3]
  · rw [if_neg hb] at bm ⊢
    refine ⟨a4, a5, a6, ?_⟩
    unfold Es
    generalize ps.map Dt.int = PP at *
    unfold spanD at *
    generalize ksD D = DD at *
    generalize k_POWERS.map Dt.int = PW at *
    simp? [pa, bm, w0, p0, p1]
theorem reduced_o_ok {D E : Ks} (I : SpanI D E) (t : Nat) {ps : List Int} (hp : ps.length ≤ 100000) :
    den_Span_reduced_o [spanD D, .int (t : Int), .lst (ps.map .int)] = .ok (.tup [.int ((red3 E (t, ps)).1 : Int), .lst ((red3 E (t, ps)).2.map .int)]) [some (spanD D)] := by
  have key : Wq (den_Span_reduced_o [spanD D, .int (t : Int), .lst (ps.map .int)]) (fun q => q = .ok (.tup [.int ((red3 E (t, ps)).1 : Int), .lst ((red3 E (t, ps)).2.map .int)]) [some (spanD D)]) := ?_
  · exact key
  refine wq_run rfl ?_
  unfold body_Span_reduced_o
  refine wp_env2 (ρ' := Es (spanD D) t ps none none none none) rfl ?_
  have dg := I.digs
  have el : (E.map fun e => Dt.int (e.1 : Int)).length ≤ 16777216 := by rw [List.length_map]; have := I.len; omega
  have ei : (iSeqD (eOp sortedRD [.fld ["Span"] 0 "kept"])) (Es (spanD D) t ps none none none none) = .ok (E.map fun e => Dt.int (e.1 : Int)) (Es (spanD D) t ps none none none none) := by
    unfold Es spanD
    generalize (E.map fun e => Dt.int (e.1 : Int)) = EE at *
    generalize ps.map Dt.int = PP at *
    generalize ksD D = DD at *
    simp? [dg, el, fldC]
  refine wp_st (R := fun z => ∃ a3 a4 a5 a6, z = .nx (Es (spanD D) (red3 E (t, ps)).1 (red3 E (t, ps)).2 a3 a4 a5 a6)) ?_ ?_
  · rw [w_for, ei, w_go1]
    refine wp_ix2 (fun y : (Nat × List Int) × Option Dt × Option Dt × Option Dt × Option Dt => Es (spanD D) y.1.1 y.1.2 y.2.1 y.2.2.1 y.2.2.2.1 y.2.2.2.2) (fun i y => y.1 = red3 (E.take i) (t, ps)) ((t, ps), none, none, none, none) rfl rfl (fun i y hi hy => ?_) fun y hy => ?_
    · obtain ⟨⟨t', ps'⟩, a3, a4, a5, a6⟩ := y
      simp only [] at hy
      have ln : ps'.length ≤ 1000000 := by
        have h1 := red3_len (E.take i) (t, ps)
        rw [← hy] at h1
        have h2 : totP (E.take i) ≤ totP E := by
          exact totP_take E i
        have h3 := I.tot
        simp only [] at h1
        omega
      obtain ⟨b4, b5, b6, e⟩ := red_turn_o I (List.getElem_mem hi) (t := t') (ps := ps') ln a4 a5 a6
      refine ⟨Es (spanD D) t' ps' (some (.int (E[i].1 : Int))) a4 a5 a6, fun z => z = .nx (Es (spanD D) (stepR (t', ps') E[i]).1 (stepR (t', ps') E[i]).2 (some (.int (E[i].1 : Int))) b4 b5 b6), rfl, e, ?_⟩
      rintro _ rfl
      refine ⟨(stepR (t', ps') E[i], _, _, _, _), rfl, ?_⟩
      show stepR (t', ps') E[i] = red3 (E.take (i + 1)) (t, ps)
      rw [List.take_succ_eq_append_getElem hi, red3_snoc, ← hy]
    · obtain ⟨⟨t', ps'⟩, a3, a4, a5, a6⟩ := y
      simp only [List.take_length] at hy
      rw [← hy]
      exact ⟨a3, a4, a5, a6, rfl⟩
  · rintro _ ⟨a3, a4, a5, a6, rfl⟩
    refine wp_th1 ?_
    unfold Es
    generalize (red3 E (t, ps)).2.map Dt.int = RR at *
    generalize (red3 E (t, ps)).1 = rt at *
    generalize spanD D = SD at *
    simp_all? []
    exact wq_rt (by first | rfl | simp [outsOf, sg_Span_reduced_o])
theorem reduced_ok {D E : Ks} (I : SpanI D E) (t : Nat) {ps : List Int} (hp : ps.length ≤ 100000) :
    den_Span_reduced [spanD D, .int (t : Int), .lst (ps.map .int)] = .ok (.tup [.int ((red3 E (t, ps)).1 : Int), .lst ((red3 E (t, ps)).2.map .int)]) [] := by
  have key : Wq (den_Span_reduced [spanD D, .int (t : Int), .lst (ps.map .int)]) (fun q => q = .ok (.tup [.int ((red3 E (t, ps)).1 : Int), .lst ((red3 E (t, ps)).2.map .int)]) []) := ?_
  · exact key
  refine wq_run rfl ?_
  unfold body_Span_reduced
  refine wp_env2 (ρ' := Es (spanD D) t ps none none none none) rfl ?_
  have dg := I.digs
  have el : (E.map fun e => Dt.int (e.1 : Int)).length ≤ 16777216 := by rw [List.length_map]; have := I.len; omega
  have ei : (iSeqD (eOp sortedRD [.val (eFld ["Span"] "kept" (eVar 0))])) (Es (spanD D) t ps none none none none) = .ok (E.map fun e => Dt.int (e.1 : Int)) (Es (spanD D) t ps none none none none) := by
    unfold Es spanD
    generalize (E.map fun e => Dt.int (e.1 : Int)) = EE at *
    generalize ps.map Dt.int = PP at *
    generalize ksD D = DD at *
    simp? [dg, el, fldC]
  refine wp_st (R := fun z => ∃ a3 a4 a5 a6, z = .nx (Es (spanD D) (red3 E (t, ps)).1 (red3 E (t, ps)).2 a3 a4 a5 a6)) ?_ ?_
  · rw [w_for, ei, w_go1]
    refine wp_ix2 (fun y : (Nat × List Int) × Option Dt × Option Dt × Option Dt × Option Dt => Es (spanD D) y.1.1 y.1.2 y.2.1 y.2.2.1 y.2.2.2.1 y.2.2.2.2) (fun i y => y.1 = red3 (E.take i) (t, ps)) ((t, ps), none, none, none, none) rfl rfl (fun i y hi hy => ?_) fun y hy => ?_
    · obtain ⟨⟨t', ps'⟩, a3, a4, a5, a6⟩ := y
      simp only [] at hy
      have ln : ps'.length ≤ 1000000 := by
        have h1 := red3_len (E.take i) (t, ps)
        rw [← hy] at h1
        have h2 : totP (E.take i) ≤ totP E := by
          exact totP_take E i
        have h3 := I.tot
        simp only [] at h1
        omega
      obtain ⟨b4, b5, b6, e⟩ := red_turn I (List.getElem_mem hi) (t := t') (ps := ps') ln a4 a5 a6
      refine ⟨Es (spanD D) t' ps' (some (.int (E[i].1 : Int))) a4 a5 a6, fun z => z = .nx (Es (spanD D) (stepR (t', ps') E[i]).1 (stepR (t', ps') E[i]).2 (some (.int (E[i].1 : Int))) b4 b5 b6), rfl, e, ?_⟩
      rintro _ rfl
      refine ⟨(stepR (t', ps') E[i], _, _, _, _), rfl, ?_⟩
      show stepR (t', ps') E[i] = red3 (E.take (i + 1)) (t, ps)
      rw [List.take_succ_eq_append_getElem hi, red3_snoc, ← hy]
    · obtain ⟨⟨t', ps'⟩, a3, a4, a5, a6⟩ := y
      simp only [List.take_length] at hy
      rw [← hy]
      exact ⟨a3, a4, a5, a6, rfl⟩
  · rintro _ ⟨a3, a4, a5, a6, rfl⟩
    refine wp_th1 ?_
    unfold Es
    generalize (red3 E (t, ps)).2.map Dt.int = RR at *
    generalize (red3 E (t, ps)).1 = rt at *
    generalize spanD D = SD at *
    simp_all? []
    exact wq_rt (by first | rfl | simp [outsOf, sg_Span_reduced])
/-! ### a number is added to a span -/
theorem v_dputF {cs : List Str} {i : Nat} {g : Str} {k e : EM Dt} {ρ : Env} : sDPutF cs i g k e ρ = (e ρ).go fun d ρ1 => match gv ρ1 i with
  | some (.obj cn fs) => if cs.contains cn then (match fs.lookup g with
    | some (.dic _) => (k ρ1).go fun z ρ2 => (match gv ρ2 i, keyD z with
      | some (.obj cn2 fs2), some k => (match fs2.lookup g with
        | some (.dic l) => if l.length < 16777216 then .nx (ρ2.set i (some (.obj cn2 (setFD g (.dic (putL l k d)) fs2)))) else .stuck
        | _ => .stuck)
      | _, _ => .stuck)
    | _ => .stuck) else .stuck
  | _ => .stuck := rfl
def ins3 (e : Ent) : Ks → Ks
  | [] => [e]
  | a :: r => if a.1 < e.1 then e :: a :: r else a :: ins3 e r
theorem ins3_kp (e : Ent) : ∀ E : Ks, kpOf (ins3 e E) = insK (e.1, e.2.1) (kpOf E)
  | [] => rfl
  | a :: r => by
    show kpOf (if a.1 < e.1 then e :: a :: r else a :: ins3 e r) = if a.1 < e.1 then (e.1, e.2.1) :: (a.1, a.2.1) :: kpOf r else (a.1, a.2.1) :: insK (e.1, e.2.1) (kpOf r)
    split
    · rfl
    · show (a.1, a.2.1) :: kpOf (ins3 e r) = _
      rw [ins3_kp e r]
theorem ins3_perm (e : Ent) : ∀ E : Ks, (ins3 e E).Perm (e :: E)
  | [] => List.Perm.refl _
  | a :: r => by
    unfold ins3
    split
    · exact List.Perm.refl _
    · exact ((ins3_perm e r).cons a).trans (List.Perm.swap e a r)
theorem ins3_tot (e : Ent) (E : Ks) : totP (ins3 e E) = totP E + e.2.2.length := by
  have h := ((ins3_perm e E).map fun e => e.2.2.length).sum_nat
  unfold totP
  rw [h, List.map_cons, List.sum_cons]; omega
theorem ins3_len (e : Ent) (E : Ks) : (ins3 e E).length = E.length + 1 := (ins3_perm e E).length_eq
theorem red_lt {n : Nat} : ∀ {E : Kp} {t : Nat}, (∀ x ∈ E, x.2 < 2 ^ n) → t < 2 ^ n → redN E t < 2 ^ n
  | [], _, _, h => h
  | e :: r, t, hE, h => by
    show redN r (if t.testBit e.1 then t ^^^ e.2 else t) < _
    refine red_lt (fun x hx => hE x (.tail _ hx)) ?_
    split
    · exact Nat.xor_lt_two_pow h (hE e (.head _))
    · exact h
theorem SpanI.small {D E : Ks} (I : SpanI D E) : ∀ x ∈ kpOf E, x.2 < 2 ^ 16 := fun x hx => by
  obtain ⟨e, he, rfl⟩ := List.mem_map.mp hx
  have h1 := (I.g.b _ hx).2
  have h2 := I.d e he
  exact Nat.lt_of_lt_of_le h1 (Nat.pow_le_pow_right (by decide) (by omega))
theorem top_bit {x : Nat} (h0 : x ≠ 0) (h : x < 2 ^ 16) : maxN (((List.range 16).filter fun j => x.testBit j).map fun j : Nat => (j : Int)) = some ((Nat.log2 x : Nat) : Int) ∧ Nat.log2 x < 16 := by
  have hb := log2_bit h0
  have l16 : Nat.log2 x < 16 := by
    rcases Nat.lt_or_ge (Nat.log2 x) 16 with h1 | h1
    · exact h1
    · have := Nat.testBit_lt_two_pow (Nat.lt_of_lt_of_le h (Nat.pow_le_pow_right (by decide) h1))
      rw [this] at hb; exact absurd hb.1 Bool.false_ne_true
  have hm : ((Nat.log2 x : Nat) : Int) ∈ ((List.range 16).filter fun j => x.testBit j).map fun j : Nat => (j : Int) := List.mem_map.mpr ⟨_, List.mem_filter.mpr ⟨List.mem_range.mpr l16, hb.1⟩, rfl⟩
  obtain ⟨m, e, m1, m2⟩ := maxN_ex (List.ne_nil_of_mem hm)
  refine ⟨?_, l16⟩
  rw [e]
  congr 1
  have h1 := m2 _ hm
  obtain ⟨j, hj, rfl⟩ := List.mem_map.mp m1
  have hj2 := (List.mem_filter.mp hj).2
  rcases Nat.lt_or_ge (Nat.log2 x) j with h2 | h2
  · have := Nat.testBit_lt_two_pow (Nat.lt_of_lt_of_le hb.2 (Nat.pow_le_pow_right (n := 2) (by decide) h2))
    rw [this] at hj2; cases hj2
  · omega
theorem SpanI.nil : SpanI [] [] := ⟨List.Perm.refl _, ⟨List.Pairwise.nil, fun _ h => nomatch h⟩, fun _ h => (nomatch h), Nat.le_refl _⟩
def step3 (E : Ks) (c : Nat) (p : Int) : Ks := if (red3 E (c, [p])).1 = 0 then E else ins3 (Nat.log2 (red3 E (c, [p])).1, (red3 E (c, [p])).1, (red3 E (c, [p])).2) E
theorem add_ok {D E : Ks} (I : SpanI D E) {c : Nat} (hc : c < 65536) (p : Int) :
    ∃ D' E', den_Span_add [spanD D, .int (c : Int), .int p] = .ok .non [some (spanD D')] ∧ SpanI D' E' ∧ kpOf E' = stepK (kpOf E) c ∧ E' = step3 E c p := by
  have ro := reduced_o_ok I c (ps := [p]) (by show 1 ≤ 100000; decide)
  have rl := red3_len E (c, [p])
  have r1 := red3_1 E (c, [p])
  have rlt := red_lt I.small (show c < 2 ^ 16 from hc)
  have cl := red_clear c I.g
  have st3 : step3 E c p = if (red3 E (c, [p])).1 = 0 then E else ins3 (Nat.log2 (red3 E (c, [p])).1, (red3 E (c, [p])).1, (red3 E (c, [p])).2) E := rfl
  generalize hr : red3 E (c, [p]) = r at *
  obtain ⟨x, ps⟩ := r
  simp only [] at r1 rl
  have r1 : x = redN (kpOf E) c := r1
  rw [← r1] at rlt
  have ro : den_Span_reduced_o [spanD D, .int (c : Int), .lst [.int p]] = .ok (.tup [.int (x : Int), .lst (ps.map .int)]) [some (spanD D)] := ro
  have key : ∀ D', Wq (den_Span_add [spanD D, .int (c : Int), .int p]) (fun q => q = .ok .non [some (spanD D')]) → den_Span_add [spanD D, .int (c : Int), .int p] = .ok .non [some (spanD D')] := fun _ h => h
  by_cases h0 : x = 0
  · refine ⟨D, E, key D ?_, I, by unfold stepK; rw [← r1, if_pos h0], by rw [st3, if_pos h0]⟩
    refine wq_run rfl ?_
    unfold body_Span_add
    have x0 : ¬ (0 : Int) < (x : Int) := by omega
    have x0' : ¬ 0 < x := by omega
    have m1 : isC "Span" "reduced" (spanD D) = true := rfl
    generalize ps.map Dt.int = PS at *
    generalize hSD : spanD D = SD at *
    simp_all? [sg_Span_add, ro, m1, x0, x0']
    exact wq_nx rfl
  · have tb := top_bit h0 rlt
    have g16 := tb.2
    have ng : ∀ e ∈ E, e.1 ≠ Nat.log2 x := fun e he z => by
      have := cl (e.1, e.2.1) (List.mem_map.mpr ⟨e, he, rfl⟩)
      rw [← r1] at this
      simp only [] at this
      rw [z, (log2_bit h0).1] at this; cases this
    have hins : kpOf (ins3 (Nat.log2 x, x, ps) E) = insK (Nat.log2 x, x) (kpOf E) := ins3_kp _ _
    refine ⟨D ++ [(Nat.log2 x, x, ps)], ins3 (Nat.log2 x, x, ps) E, key _ ?_, ⟨?_, ?_, fun e he => ?_, ?_⟩, by unfold stepK; rw [← r1, if_neg h0]; exact hins, by rw [st3, if_neg h0]⟩
    · refine wq_run rfl ?_
      unfold body_Span_add
      have x0 : (0 : Int) < (x : Int) := by omega
      have x0' : 0 < x := by omega
      have m1 : isC "Span" "reduced" (spanD D) = true := rfl
      have pk : putL (ksD D) (.inl ((Nat.log2 x : Nat) : Int)) (.tup [.int (x : Int), .lst (ps.map .int)]) = ksD (D ++ [(Nat.log2 x, x, ps)]) := by
        unfold putL
        have a : (ksD D).any (fun q => eqKD q.1 (.inl ((Nat.log2 x : Nat) : Int))) = false := by
          rw [List.any_eq_false]
          intro q hq
          obtain ⟨e, he, rfl⟩ := List.mem_map.mp hq
          have := ng e (I.p.mem_iff.mp he)
          show ¬ (decide ((e.1 : Int) = ((Nat.log2 x : Nat) : Int)) = true)
          simp; omega
        rw [if_neg (by rw [a]; decide)]
        unfold ksD
        rw [List.map_append]; rfl
      have kn : (ksD D).length < 16777216 := by unfold ksD; rw [List.length_map, I.p.length_eq]; have := I.len; omega
      refine wp_eq (ρ' := [some (spanD D), some (.int (c : Int)), some (.int p), some (.int (x : Int)), some (.lst (ps.map .int)), none, none]) ?_ ?_
      · generalize ps.map Dt.int = PS at *
        generalize hSD : spanD D = SD at *
        simp? [sg_Span_add, ro, m1]
      have w1 : rng1D [.int 16] = some ((List.range 16).map fun k : Nat => Dt.int (k : Int)) := by rw [w_rg1 ⟨by omega, by omega⟩]; rfl
      have ec := comp_filterC (i := 6) (c := (cOf (eOp eqD [.val (eOp modD [.val (eOp divD [.val (eVar 3), .val (eOp ixD [.val (eC (.tup (k_POWERS.map .int))), .val (eVar 6)])]), .val (eC (.int 2))]), .val (eC (.int 1))]))) (e := eVar 6) (fun k : Nat => Dt.int (k : Int)) (fun j => x.testBit j) (fun k : Nat => Dt.int (k : Int)) (ρ := [some (spanD D), some (.int (c : Int)), some (.int p), some (.int (x : Int)), some (.lst (ps.map .int)), none, none]) (by simp) (List.range 16) (fun j hj => by
        have hj := List.mem_range.mp hj
        have pa := pow_at hj
        have bm := bit_mod x j
        have p0 : (0 : Int) < ((2 ^ j : Nat) : Int) := by have : 0 < 2 ^ j := Nat.pow_pos (by decide); omega
        have p1 : ((2 ^ j : Nat) : Int) < 4611686018427387904 := by
          have h1 : 2 ^ j ≤ 2 ^ 15 := Nat.pow_le_pow_right (by decide) (by omega)
          have h2 : 2 ^ 15 = 32768 := by decide
          omega
        generalize ((2 ^ j : Nat) : Int) = w at *
        generalize x.testBit j = bb at *
        generalize ps.map Dt.int = PS at *
        generalize spanD D = SD at *
        generalize k_POWERS.map Dt.int = PW at *
        cases bb with
        | true =>
          rw [if_pos rfl] at bm
          simp? [pa, bm, p0, p1]
        | false =>
          rw [if_neg (by decide)] at bm
          simp? [pa, bm, p0, p1]) (fun j _ _ => rfl)
      have mx : maxLD [.lst (((List.range 16).filter fun j => x.testBit j).map fun k : Nat => Dt.int (k : Int))] = some (.int ((Nat.log2 x : Nat) : Int)) := by
        have e := x_maxL (l := ((List.range 16).filter fun j => x.testBit j).map fun j : Nat => (j : Int))
        rw [List.map_map, tb.1] at e
        exact e
      have rl16 : ((List.range 16).map fun k : Nat => Dt.int (k : Int)).length ≤ 16777216 := by simp
      generalize ((List.range 16).filter fun j => x.testBit j).map (fun k : Nat => Dt.int (k : Int)) = FF at *
      generalize (List.range 16).map (fun k : Nat => Dt.int (k : Int)) = RR at *
      clear ro hr m1
      generalize ((Nat.log2 x : Nat) : Int) = g at *
      have hD' : spanD (D ++ [(Nat.log2 x, x, ps)]) = .obj "Span" [("kept", .dic (ksD (D ++ [(Nat.log2 x, x, ps)])))] := rfl
      rw [hD']
      generalize ksD (D ++ [(Nat.log2 x, x, ps)]) = DD2 at *
      unfold spanD at *
      generalize ksD D = DD at *
      generalize ps.map Dt.int = PS at *
      simp_all? [x0, x0', w1, ec, rl16, mx, pk, kn, setFD, v_dputF, -w_rg1]
      exact wq_nx rfl
    · exact (List.perm_append_comm.trans (List.Perm.refl _)).trans ((I.p.cons _).trans (ins3_perm _ _).symm)
    · rw [hins]
      exact insK_good I.g (fun y hy => by
        obtain ⟨e, he, rfl⟩ := List.mem_map.mp hy
        exact ng e he) (log2_bit h0)
    · rcases List.mem_cons.mp ((ins3_perm _ _).mem_iff.mp he) with rfl | h
      · exact g16
      · exact I.d e h
    · rw [ins3_tot, ins3_len]
      have := I.t
      simp only []
      have rl : ps.length ≤ 1 + totP E := rl
      rw [Nat.pow_succ]; omega
local macro_rules | `(tactic| simp? [$xs,*]) => `(tactic| simp -implicitDefEqProofs (disch := first | omega | (simp; done) | (simp; omega)) [w_seq, w_skip, w_th1, w_th2, w_th3, w_th4, w_th5, w_set, w_if, w_ret, w_do, w_brk, w_cont, w_raise, w_go1, w_go2, w_goi, w_bd1, w_bd2, w_bdi, w_tn1, w_tn2, w_tn3, w_tn4, w_tn5, w_gv0, w_gvs, w_gvn, w_var, w_c, w_ag0, w_ag1, w_ag2, w_op, w_eif, w_cof, w_eof, w_and, w_or, w_not, w_tru, w_andv, w_orv, w_for, w_iop, w_iseq, w_call, w_po0, w_po1, w_po2, w_put, w_mut, w_lim, w_comp, w_aug, w_slv, w_pt0, w_pt1, w_yes, w_gvar, w_try, w_as, w_su, w_isx, w_rid1, w_rid2, w_run, w_end1, w_end2, w_end3, w_outs0, w_outs1, w_mul, w_rep, w_div, w_mod, w_shl, w_shr, w_lst, w_tup, w_cat, w_catS, w_catD, w_repD, w_rg1, w_rg2, w_app, w_ext, w_ins, w_toN, w_eqI, w_eqS, w_eqL, w_ix0, w_ix1, w_ix2, w_ix3, w_ix4, w_ix5, w_iN0, w_iN1, w_iN2, w_iN3, w_iN4, w_rgl, w_addI, w_addI2, w_subI, w_subI2, w_andI, w_orI, w_xorI, w_negI, w_ltI, w_leI, w_gtI, w_geI, w_eqD, w_neD, w_isN1, w_isN2, w_isN3, w_isN4, w_isN5, w_isN6, w_isN7, w_isN8, w_isN9, w_ixL, w_ixR, w_ixT, w_lenL, w_lenR, w_lenT, w_lenS, w_listL, w_listR, w_listT, w_tupleL, w_tupleR, w_tupleT, w_intI, w_intB, w_max2, w_min2, w_sumL, w_notB, w_isi, w_ty1, w_ty2, w_ty3, w_ty4, w_ty5, w_ty6, w_ty7, w_tr1, w_tr2, w_tr3, w_tr5, w_tr6, w_tr7, w_sq1, w_sq2, w_sq3, w_sq4, w_zip, w_slL, w_slR, w_len63, w_nat, w_zipl, w_pow, w_make, w_fldS, w_fld, w_meth, w_un, w_gt2, w_chLe, w_cLe, w_atI, w_at2, w_at3, w_at4, w_at5, w_at6, w_at7, w_at8, w_lku, w_drop0, w_cutLH, w_cutN, w_cutM1, w_atN, w_catT, w_gt3, w_eeq, w_ng1, w_ng2, w_iso, w_slU, w_mulI, w_bm, w_isT, w_isL, w_isLr, w_isS, w_keepC, w_keepE, w_slPv, w_slPo, w_glst, w_gal0, w_gal1, w_gt4, w_slo, w_chT, w_chLL, w_chTL, w_chTT, w_chT1, w_chT0, w_raiseA, w_xf1, u_sub_InvalidUnknowns_InvalidPlan, u_sub_InvalidUnknowns_InvalidUnknowns, u_errs_InvalidUnknowns, u_mem_InvalidUnknowns, u_ne_add_kept, u_nb_add_kept, u_ne_add_reduced, u_nb_add_reduced, u_ne_kept_add, u_nb_kept_add, u_ne_kept_reduced, u_nb_kept_reduced, u_ne_reduced_add, u_nb_reduced_add, u_ne_reduced_kept, u_nb_reduced_kept, v_flatI, v_flatB, v_flatS, v_flatN, v_agf, v_fldC, v_putF, v_methO, v_mutF, v_extT, v_dic, v_dput, v_dgetO, v_key1, v_key2, v_frzS, v_frzE, v_frz1, v_keys, v_dputF, $xs,*])
local macro_rules | `(tactic| simp_all? [$xs,*]) => `(tactic| (conv => (arg 1; simp -implicitDefEqProofs (disch := first | omega | (simp; done) | (simp; omega)) [w_seq, w_skip, w_th1, w_th2, w_th3, w_th4, w_th5, w_set, w_if, w_ret, w_do, w_brk, w_cont, w_raise, w_go1, w_go2, w_goi, w_bd1, w_bd2, w_bdi, w_tn1, w_tn2, w_tn3, w_tn4, w_tn5, w_gv0, w_gvs, w_gvn, w_var, w_c, w_ag0, w_ag1, w_ag2, w_op, w_eif, w_cof, w_eof, w_and, w_or, w_not, w_tru, w_andv, w_orv, w_for, w_iop, w_iseq, w_call, w_po0, w_po1, w_po2, w_put, w_mut, w_lim, w_comp, w_aug, w_slv, w_pt0, w_pt1, w_yes, w_gvar, w_try, w_as, w_su, w_isx, w_rid1, w_rid2, w_run, w_end1, w_end2, w_end3, w_outs0, w_outs1, w_mul, w_rep, w_div, w_mod, w_shl, w_shr, w_lst, w_tup, w_cat, w_catS, w_catD, w_repD, w_rg1, w_rg2, w_app, w_ext, w_ins, w_toN, w_eqI, w_eqS, w_eqL, w_ix0, w_ix1, w_ix2, w_ix3, w_ix4, w_ix5, w_iN0, w_iN1, w_iN2, w_iN3, w_iN4, w_rgl, w_addI, w_addI2, w_subI, w_subI2, w_andI, w_orI, w_xorI, w_negI, w_ltI, w_leI, w_gtI, w_geI, w_eqD, w_neD, w_isN1, w_isN2, w_isN3, w_isN4, w_isN5, w_isN6, w_isN7, w_isN8, w_isN9, w_ixL, w_ixR, w_ixT, w_lenL, w_lenR, w_lenT, w_lenS, w_listL, w_listR, w_listT, w_tupleL, w_tupleR, w_tupleT, w_intI, w_intB, w_max2, w_min2, w_sumL, w_notB, w_isi, w_ty1, w_ty2, w_ty3, w_ty4, w_ty5, w_ty6, w_ty7, w_tr1, w_tr2, w_tr3, w_tr5, w_tr6, w_tr7, w_sq1, w_sq2, w_sq3, w_sq4, w_zip, w_slL, w_slR, w_len63, w_nat, w_zipl, w_pow, w_make, w_fldS, w_fld, w_meth, w_un, w_gt2, w_chLe, w_cLe, w_atI, w_at2, w_at3, w_at4, w_at5, w_at6, w_at7, w_at8, w_lku, w_drop0, w_cutLH, w_cutN, w_cutM1, w_atN, w_catT, w_gt3, w_eeq, w_ng1, w_ng2, w_iso, w_slU, w_mulI, w_bm, w_isT, w_isL, w_isLr, w_isS, w_keepC, w_keepE, w_slPv, w_slPo, w_glst, w_gal0, w_gal1, w_gt4, w_slo, w_chT, w_chLL, w_chTL, w_chTT, w_chT1, w_chT0, w_raiseA, w_xf1, u_sub_InvalidUnknowns_InvalidPlan, u_sub_InvalidUnknowns_InvalidUnknowns, u_errs_InvalidUnknowns, u_mem_InvalidUnknowns, u_ne_add_kept, u_nb_add_kept, u_ne_add_reduced, u_nb_add_reduced, u_ne_kept_add, u_nb_kept_add, u_ne_kept_reduced, u_nb_kept_reduced, u_ne_reduced_add, u_nb_reduced_add, u_ne_reduced_kept, u_nb_reduced_kept, v_flatI, v_flatB, v_flatS, v_flatN, v_agf, v_fldC, v_putF, v_methO, v_mutF, v_extT, v_dic, v_dput, v_dgetO, v_key1, v_key2, v_frzS, v_frzE, v_frz1, v_keys, v_dputF, $xs,*])))
/-! ### bytes with a bit set -/
/-! ### bits flipped by sums -/
def flipW (n w : Int) : Int := n + w - 2 * w * (n / w % 2)
theorem bitAnd_ppN (a b : Nat) : Builtin.bitAnd (a : Int) (b : Int) = ((a &&& b : Nat) : Int) := by
  simp [Builtin.bitAnd]
theorem flipW_nat (n k : Nat) : flipW (n : Int) ((2 ^ k : Nat) : Int) = ((n ^^^ 2 ^ k : Nat) : Int) := by
  have h1 : n &&& 2 ^ k = 2 ^ k * (n / 2 ^ k % 2) := by
    have ht : n.testBit k = decide (n / 2 ^ k % 2 = 1) := by
      rw [Nat.testBit, Nat.shiftRight_eq_div_pow, Nat.one_and_eq_mod_two]
      rcases Nat.mod_two_eq_zero_or_one (n / 2 ^ k) with h | h <;> rw [h] <;> rfl
    apply Nat.eq_of_testBit_eq
    intro i
    rw [Nat.testBit_and, Nat.testBit_two_pow]
    rcases Nat.mod_two_eq_zero_or_one (n / 2 ^ k) with h | h
    · rw [h, Nat.mul_zero, Nat.zero_testBit]
      by_cases e : k = i
      · subst e; rw [ht, h]; rfl
      · simp [e]
    · rw [h, Nat.mul_one, Nat.testBit_two_pow]
      by_cases e : k = i
      · subst e; rw [ht, h]; rfl
      · simp [e]
  have h2 := bitXor_and (n : Int) ((2 ^ k : Nat) : Int)
  rw [Bits.bitXor_pp (Int.natCast_nonneg _) (Int.natCast_nonneg _)] at h2
  have h3 : Builtin.bitAnd (n : Int) ((2 ^ k : Nat) : Int) = ((n &&& 2 ^ k : Nat) : Int) := by
    rw [bitAnd_ppN]
  rw [h3, h1] at h2
  have e1 : ((n : Int)).toNat = n := Int.toNat_natCast n
  have e2 : (((2 ^ k : Nat) : Int)).toNat = 2 ^ k := Int.toNat_natCast _
  rw [e1, e2] at h2
  rw [h2]
  unfold flipW
  have e3 : (((2 ^ k * (n / 2 ^ k % 2) : Nat)) : Int) = ((2 ^ k : Nat) : Int) * ((n : Int) / ((2 ^ k : Nat) : Int) % 2) := by
    rw [Int.natCast_mul]; congr 1
  rw [e3, Int.mul_assoc]
theorem wt_at (j : Nat) (hj : j < 8) : atI (k_BIT_WEIGHTS.map Dt.int) (j : Int) = some (.int (2 ^ (7 - j))) := by
  match j, hj with
  | 0, _ => rfl
  | 1, _ => rfl
  | 2, _ => rfl
  | 3, _ => rfl
  | 4, _ => rfl
  | 5, _ => rfl
  | 6, _ => rfl
  | 7, _ => rfl
theorem pw_pos (k : Nat) (h : k ≤ 7) : (0 : Int) < 2 ^ k ∧ (2 : Int) ^ k < 4611686018427387904 := by
  match k, h with
  | 0, _ => decide
  | 1, _ => decide
  | 2, _ => decide
  | 3, _ => decide
  | 4, _ => decide
  | 5, _ => decide
  | 6, _ => decide
  | 7, _ => decide
theorem pw128 (j : Nat) (hj : j < 8) : (128 : Int) / 2 ^ j = ((2 ^ (7 - j) : Nat) : Int) := by
  match j, hj with
  | 0, _ => rfl
  | 1, _ => rfl
  | 2, _ => rfl
  | 3, _ => rfl
  | 4, _ => rfl
  | 5, _ => rfl
  | 6, _ => rfl
  | 7, _ => rfl
theorem pwc (j : Nat) : (2 : Int) ^ j = ((2 ^ j : Nat) : Int) := by norm_cast
def bitA (l : List Int) (q : Nat) : Int := nI l ((q / 8 : Nat) : Int) / 2 ^ (7 - q % 8) % 2
theorem bitA01 (l : List Int) (q : Nat) : bitA l q = 0 ∨ bitA l q = 1 := by unfold bitA; omega
theorem aug_b {i : Nat} {k e : EM Dt} {f : List Dt → Option Dt} {ρ : Env} {l : List Dt} {n : Int} {j : Nat} {old d new : Dt} (h0 : gv ρ i = some (.lst l)) (hk : k ρ = .ok (.int n) ρ) (hj : ixN l.length n = some j) (ho : l[j]? = some old) (he : e ρ = .ok d ρ) (hf : f [old, d] = some new) :
    sAugS i k f e ρ = .nx (ρ.set i (some (.lst (l.set j new)))) := by
  unfold sAugS
  rw [h0, hk]
  simp only [Option.isSome_some, if_true, w_go1, h0, hj, ho, he, hf]
theorem with_bit_ok {l : List Int} {p : Nat} (hl : ∀ v ∈ l, 0 ≤ v ∧ v < 256) (hp : p < 8 * l.length) (hn : l.length ≤ 1000) : den_with_bit [.lst (l.map .int), .int (p : Int), .int (1 - bitA l p)] = .ok (.lst ((flipB l (p : Int)).map .int)) [] := by
  refine wq_of (Q := fun q => q = .ok (.lst ((flipB l (p : Int)).map .int)) []) (wq_run rfl ?_)
  unfold body_with_bit
  have wa := wt_at (p % 8) (by omega)
  have m8 : (p : Int) % 8 = ((p % 8 : Nat) : Int) := by omega
  have d8 : (p : Int) / 8 = ((p / 8 : Nat) : Int) := by omega
  have hi : p / 8 < l.length := by omega
  have hv := hl _ (nI_in (l := l) (i := ((p / 8 : Nat) : Int)) (by omega) (by omega))
  have at1 := atI_getD (l := l) hi
  have e : (flipB l (p : Int)) = l.set (p / 8) (nI l ((p / 8 : Nat) : Int) + 2 ^ (7 - p % 8) - 2 * 2 ^ (7 - p % 8) * (nI l ((p / 8 : Nat) : Int) / 2 ^ (7 - p % 8) % 2)) := by
    unfold flipB
    rw [d8, m8, Int.toNat_natCast, Int.toNat_natCast, pw128 (p % 8) (by omega)]
    congr 1
    obtain ⟨n, hn⟩ : ∃ n : Nat, nI l ((p / 8 : Nat) : Int) = n := ⟨(nI l ((p / 8 : Nat) : Int)).toNat, by omega⟩
    rw [hn]
    have := flipW_nat n (7 - p % 8)
    unfold flipW at this
    rw [pwc, this, Bits.bitXor_pp (Int.natCast_nonneg _) (Int.natCast_nonneg _)]
    rfl
  rw [e]
  unfold bitA
  obtain ⟨p0, p1⟩ := pw_pos (7 - p % 8) (by omega)
  have nv : l.getD (p / 8) 0 = nI l ((p / 8 : Nat) : Int) := by unfold nI; rw [Int.toNat_natCast]
  rw [nv] at at1
  have hget : (l.map Dt.int)[p / 8]? = some (.int (nI l ((p / 8 : Nat) : Int))) := by rw [List.getElem?_map, List.getElem?_eq_getElem hi, nI_nat hi]; rfl
  generalize nI l ((p / 8 : Nat) : Int) = v at *
  generalize (2 : Int) ^ (7 - p % 8) = w at *
  have tn := w_toN (n := l.length) (i := ((p / 8 : Nat) : Int)) (by omega) (by omega)
  rw [Int.toNat_natCast] at tn
  generalize p % 8 = j at *
  generalize p / 8 = i at *
  have b01 : v / w % 2 = 0 ∨ v / w % 2 = 1 := by omega
  obtain ⟨b, hb⟩ : ∃ b, v / w % 2 = b := ⟨_, rfl⟩
  rw [hb] at b01 ⊢
  have ea : v + (1 - b - b) * w = v + w - 2 * w * b := by rcases b01 with rfl | rfl <;> simp <;> omega
  have b1 : (1 - b - b) = 1 ∨ (1 - b - b) = -1 := by omega
  have mb : -18446744073709551616 < (1 - b - b) * w ∧ (1 - b - b) * w < 18446744073709551616 := by rcases b1 with h | h <;> rw [h] <;> omega
  have st : (l.map Dt.int).set i (.int (v + w - 2 * w * b)) = (l.set i (v + w - 2 * w * b)).map .int := by rw [List.map_set]
  have wb : w < 18446744073709551616 := by omega
  have wb2 : -18446744073709551616 < w := by omega
  generalize k_BIT_WEIGHTS.map Dt.int = BW at *
  have hA := aug_b (i := 3) (k := eOp divD [.val (eVar 1), .val (eC (.int 8))]) (e := eOp mulD [.val (eOp subD [.val (eVar 2), .val (eVar 5)]), .val (eVar 4)]) (f := addI) (ρ := [some (.lst (l.map .int)), some (.int (p : Int)), some (.int (1 - b)), some (.lst (l.map .int)), some (.int w), some (.int b)]) (l := l.map .int) (n := (i : Int)) (j := i) (old := .int v) (d := .int ((1 - b - b) * w)) (new := .int (v + w - 2 * w * b)) rfl
    (by simp? [d8]) (by rw [List.length_map]; unfold ixN; rw [if_pos (by omega), if_pos (by omega)]; simp) hget (by simp? [mb.1, mb.2]) (by show some (Dt.int (v + _)) = _; rw [ea])
  rw [st] at hA
  simp_all? [sg_with_bit, m8, d8, wa, at1, p0, p1, tn, wb, wb2, hb, hA, -w_atI]
  exact wq_rt (by simp [outsOf, sg_with_bit])
theorem with_bit_same {l : List Int} {p : Nat} (hl : ∀ v ∈ l, 0 ≤ v ∧ v < 256) (hp : p < 8 * l.length) (hn : l.length ≤ 1000) : den_with_bit [.lst (l.map .int), .int (p : Int), .int (bitA l p)] = .ok (.lst (l.map .int)) [] := by
  refine wq_of (Q := fun q => q = .ok (.lst (l.map .int)) []) (wq_run rfl ?_)
  unfold body_with_bit
  have wa := wt_at (p % 8) (by omega)
  have m8 : (p : Int) % 8 = ((p % 8 : Nat) : Int) := by omega
  have d8 : (p : Int) / 8 = ((p / 8 : Nat) : Int) := by omega
  have hi : p / 8 < l.length := by omega
  have hv := hl _ (nI_in (l := l) (i := ((p / 8 : Nat) : Int)) (by omega) (by omega))
  have at1 := atI_getD (l := l) hi
  unfold bitA
  obtain ⟨p0, p1⟩ := pw_pos (7 - p % 8) (by omega)
  have nv : l.getD (p / 8) 0 = nI l ((p / 8 : Nat) : Int) := by unfold nI; rw [Int.toNat_natCast]
  rw [nv] at at1
  have hget : (l.map Dt.int)[p / 8]? = some (.int (nI l ((p / 8 : Nat) : Int))) := by rw [List.getElem?_map, List.getElem?_eq_getElem hi, nI_nat hi]; rfl
  have hset : (l.map Dt.int).set (p / 8) (.int (nI l ((p / 8 : Nat) : Int))) = l.map .int := by
    rw [← List.map_set, nI_nat hi, List.set_getElem_self]
  generalize nI l ((p / 8 : Nat) : Int) = v at *
  generalize (2 : Int) ^ (7 - p % 8) = w at *
  generalize p % 8 = j at *
  generalize p / 8 = i at *
  obtain ⟨b, hb⟩ : ∃ b, v / w % 2 = b := ⟨_, rfl⟩
  rw [hb]
  have z0 : (b - b) * w = 0 := by rw [Int.sub_self, Int.zero_mul]
  generalize k_BIT_WEIGHTS.map Dt.int = BW at *
  have hA := aug_b (i := 3) (k := eOp divD [.val (eVar 1), .val (eC (.int 8))]) (e := eOp mulD [.val (eOp subD [.val (eVar 2), .val (eVar 5)]), .val (eVar 4)]) (f := addI) (ρ := [some (.lst (l.map .int)), some (.int (p : Int)), some (.int b), some (.lst (l.map .int)), some (.int w), some (.int b)]) (l := l.map .int) (n := (i : Int)) (j := i) (old := .int v) (d := .int 0) (new := .int v) rfl
    (by simp? [d8]) (by rw [List.length_map]; unfold ixN; rw [if_pos (by omega), if_pos (by omega)]; simp) hget (by simp? []) (by show some (Dt.int (v + 0)) = _; rw [Int.add_zero])
  rw [hset] at hA
  have wb : w < 18446744073709551616 := by omega
  have wb2 : -18446744073709551616 < w := by omega
  simp_all? [sg_with_bit, m8, d8, wa, at1, p0, p1, wb, wb2, hb, hA, -w_atI]
  exact wq_rt (by simp [outsOf, sg_with_bit])
def setB (l : List Int) (p : Nat) (b : Int) : List Int := if bitA l p = b then l else flipB l (p : Int)
theorem with_bit_set {l : List Int} {p : Nat} {b : Int} (hb : b = 0 ∨ b = 1) (hl : ∀ v ∈ l, 0 ≤ v ∧ v < 256) (hp : p < 8 * l.length) (hn : l.length ≤ 1000) : den_with_bit [.lst (l.map .int), .int (p : Int), .int b] = .ok (.lst ((setB l p b).map .int)) [] := by
  unfold setB
  by_cases h : bitA l p = b
  · rw [if_pos h, ← h]; exact with_bit_same hl hp hn
  · rw [if_neg h]
    have : b = 1 - bitA l p := by have := bitA01 l p; omega
    rw [this]; exact with_bit_ok hl hp hn
theorem setB_len {l : List Int} {p : Nat} {b : Int} : (setB l p b).length = l.length := by
  unfold setB; split
  · rfl
  · exact flipB_len
theorem setB_byte {l : List Int} {p : Nat} {b : Int} (hl : ∀ v ∈ l, 0 ≤ v ∧ v < 256) (hp : p < 8 * l.length) : ∀ v ∈ setB l p b, 0 ≤ v ∧ v < 256 := by
  unfold setB; split
  · exact hl
  · exact flipB_byte hl (by omega) (by omega)
/-- the number by which a bit changes the CRC -/
abbrev chN (len p : Nat) : Nat := itL (8 * len - p) 32768
theorem crc_flipN {l : List Int} {p : Nat} (hl : ∀ v ∈ l, 0 ≤ v ∧ v < 256) (hp : p < 8 * l.length) : crcN (flipB l (p : Int)) = crcN l ^^^ chN l.length p := by
  have := crcN_flip (o := l) (p := (p : Int)) hl (by omega) (by omega)
  rwa [Int.toNat_natCast] at this
theorem zeros_bit (n p : Nat) (hp : p < 8 * n) : bitA (List.replicate n 0) p = 0 := by
  unfold bitA
  rw [nI_nat (by rw [List.length_replicate]; omega), List.getElem_replicate, Int.zero_ediv]; rfl
theorem rep_any (v : Int) : ∀ n : Nat, (List.replicate n [Dt.int v]).flatten = (List.replicate n v).map Dt.int
  | 0 => rfl
  | n + 1 => by rw [List.replicate_succ, List.flatten_cons, rep_any v n]; rfl
theorem crc_change_ok {n p : Nat} (hn : n ≤ 1000) (hp : p < 8 * n) : den_crc_change [.int (n : Int), .int (p : Int)] = .ok (.int ((chN n p : Nat) : Int)) [] := by
  refine wq_of (Q := fun q => q = .ok (.int ((chN n p : Nat) : Int)) []) (wq_run rfl ?_)
  unfold body_crc_change
  have m1 : mulD [.lst [.int 0], .int (n : Int)] = some (.lst ((List.replicate n (0 : Int)).map .int)) := by
    rw [w_rep (by omega) (by simp; omega) (by omega), Int.toNat_natCast, rep_any]
  have hz : ∀ v ∈ List.replicate n (0 : Int), 0 ≤ v ∧ v < 256 := fun v hv => by rw [(List.mem_replicate.mp hv).2]; decide
  have ln : (List.replicate n (0 : Int)).length = n := List.length_replicate ..
  have wb := with_bit_set (l := List.replicate n 0) (p := p) (b := 1) (.inr rfl) hz (by rw [ln]; exact hp) (by rw [ln]; exact hn)
  have e1 : setB (List.replicate n 0) p 1 = flipB (List.replicate n 0) (p : Int) := by unfold setB; rw [zeros_bit n p hp, if_neg (by decide)]
  rw [e1] at wb
  have c1 := crc_ok (List.replicate n 0)
  have c2 := crc_ok (flipB (List.replicate n 0) (p : Int))
  have xo := exclusive_ok (crcM (List.replicate n 0)) (crcM (flipB (List.replicate n 0) (p : Int)))
  have ex : Builtin.bitXor (crcM (List.replicate n 0)) (crcM (flipB (List.replicate n 0) (p : Int))) = ((chN n p : Nat) : Int) := by
    rw [crc_N, crc_N, crc_flipN hz (by rw [ln]; exact hp), ln, Bits.bitXor_pp (Int.natCast_nonneg _) (Int.natCast_nonneg _)]
    show ((crcN _ ^^^ (crcN _ ^^^ _) : Nat) : Int) = _
    rw [← Nat.xor_assoc, Nat.xor_self, Nat.zero_xor]
  rw [ex] at xo
  generalize ((chN n p : Nat) : Int) = cn at *
  generalize crcM (flipB (List.replicate n 0) (p : Int)) = y at *
  generalize (flipB (List.replicate n 0) (p : Int)).map Dt.int = FB at *
  generalize crcM (List.replicate n 0) = x at *
  generalize (List.replicate n (0 : Int)).map Dt.int = ZZ at *
  simp_all? [sg_crc_change, m1, wb, c1, c2, xo, -w_rep]
  exact wq_rt rfl
/-! ### spans of unknown bits; how many ways there are -/
def okB (l : List Int) : Prop := (∀ v ∈ l, 0 ≤ v ∧ v < 256) ∧ l.length ≤ 1000
def plainL (l : List Int) (u : List Nat) : List Int := u.foldl (fun l p => setB l p 0) l
theorem plain_len : ∀ (u : List Nat) (l : List Int), (plainL l u).length = l.length
  | [], _ => rfl
  | p :: r, l => (plain_len r (setB l p 0)).trans setB_len
theorem plain_byte : ∀ (u : List Nat) (l : List Int), (∀ v ∈ l, 0 ≤ v ∧ v < 256) → (∀ p ∈ u, p < 8 * l.length) → ∀ v ∈ plainL l u, 0 ≤ v ∧ v < 256
  | [], _, h, _ => h
  | p :: r, l, h, hu => plain_byte r (setB l p 0) (setB_byte h (hu p (.head _))) fun q hq => by rw [setB_len]; exact hu q (.tail _ hq)
abbrev uD (u : List Nat) : List Dt := u.map fun p : Nat => .int (p : Int)
theorem ch_lt (n p : Nat) (hn : 0 < 8 * n - p) : chN n p < 65536 := by
  unfold chN
  have : ∀ k m, m < 65536 → itL k m < 65536 := by
    intro k
    induction k with
    | zero => intro m h; exact h
    | succ k ih =>
      intro m h
      first | exact ih _ lN_lt | exact lN_lt
  exact this _ _ (by decide)
theorem kept_snoc (cs : List Nat) (c : Nat) : keptN (cs ++ [c]) = stepK (keptN cs) c := by unfold keptN; rw [List.foldl_append]; rfl
theorem plain_snoc (l : List Int) (u : List Nat) (p : Nat) : plainL l (u ++ [p]) = setB (plainL l u) p 0 := by unfold plainL; rw [List.foldl_append]; rfl
def kept3 (f : Nat → Nat) (u : List Nat) : Ks := u.foldl (fun E p => step3 E (f p) (p : Int)) []
theorem kept3_snoc (f : Nat → Nat) (u : List Nat) (p : Nat) : kept3 f (u ++ [p]) = step3 (kept3 f u) (f p) (p : Int) := by unfold kept3; rw [List.foldl_append]; rfl
theorem span_of_ok {l : List Int} {u : List Nat} (hl : okB l) (hu : ∀ p ∈ u, p < 8 * l.length) (un : u.length ≤ 1000) :
    ∃ D E, den_span_of [.lst (l.map .int), .lst (uD u)] = .ok (.tup [.lst ((plainL l u).map .int), spanD D]) [] ∧ SpanI D E ∧ kpOf E = keptN (u.map (chN l.length)) ∧ E = kept3 (chN l.length) u := by
  have key : Wq (den_span_of [.lst (l.map .int), .lst (uD u)]) (fun q => ∃ D E, q = .ok (.tup [.lst ((plainL l u).map .int), spanD D]) [] ∧ SpanI D E ∧ kpOf E = keptN (u.map (chN l.length)) ∧ E = kept3 (chN l.length) u) := ?_
  · exact key
  refine wq_run rfl ?_
  unfold body_span_of
  have ll : (l.map Dt.int).length = l.length := List.length_map ..
  have l2 : (l.map Dt.int).length ≤ 16777216 := by rw [ll]; have := hl.2; omega
  have si : den_Span_init [.obj "Span" []] = .ok .non [some (spanD [])] := rfl
  have ul : (uD u).length ≤ 16777216 := by rw [List.length_map]; omega
  refine wp_eq (ρ' := [some (.lst (l.map .int)), some (.lst (uD u)), some (.lst (l.map .int)), none, none]) ?_ ?_
  · generalize l.map Dt.int = LL at *
    generalize uD u = UU at *
    simp? [l2, sg_span_of]
  refine wp_eq (ρ' := [some (.lst (l.map .int)), some (.lst (uD u)), some (.lst ((plainL l []).map .int)), some (spanD []), none]) ?_ ?_
  · show _ = Sr.nx [some (.lst (l.map .int)), some (.lst (uD u)), some (.lst (l.map .int)), some (spanD []), none]
    generalize l.map Dt.int = LL at *
    generalize uD u = UU at *
    generalize spanD [] = SD at *
    simp? [si]
  refine wp_st (R := fun z => ∃ D E a, z = .nx [some (.lst (l.map .int)), some (.lst (uD u)), some (.lst ((plainL l u).map .int)), some (spanD D), a] ∧ SpanI D E ∧ kpOf E = keptN (u.map (chN l.length)) ∧ E = kept3 (chN l.length) u) ?_ ?_
  · have ei : (iSeqD (eVar 1)) [some (.lst (l.map .int)), some (.lst (uD u)), some (.lst ((plainL l []).map .int)), some (spanD []), none] = .ok (uD u) [some (.lst (l.map .int)), some (.lst (uD u)), some (.lst ((plainL l []).map .int)), some (spanD []), none] := by
      generalize (plainL l []).map Dt.int = PL at *
      generalize l.map Dt.int = LL at *
      generalize uD u = UU at *
      generalize spanD [] = SD at *
      simp? [ul]
    rw [w_for, ei, w_go1]
    refine wp_ix2 (fun y : List Int × Ks × Option Dt => [some (.lst (l.map .int)), some (.lst (uD u)), some (.lst (y.1.map .int)), some (spanD y.2.1), y.2.2]) (fun i y => y.1 = plainL l (u.take i) ∧ ∃ E, SpanI y.2.1 E ∧ kpOf E = keptN ((u.take i).map (chN l.length)) ∧ E = kept3 (chN l.length) (u.take i)) (plainL l [], [], none) rfl ⟨rfl, [], SpanI.nil, rfl, rfl⟩ (fun i y hi hy => ?_) fun y hy => ?_
    · obtain ⟨pl, D, a⟩ := y
      obtain ⟨h1, E, I, hk, hE⟩ := hy
      simp only [] at h1 I
      have hp := hu _ (List.getElem_mem hi)
      have tk : u.take (i + 1) = u.take i ++ [u[i]] := List.take_succ_eq_append_getElem hi
      have h2 : plainL l (u.take (i + 1)) = setB pl u[i] 0 := by rw [tk, plain_snoc, h1]
      have h3 : keptN ((u.take (i + 1)).map (chN l.length)) = stepK (kpOf E) (chN l.length u[i]) := by rw [tk, List.map_append, List.map_cons, List.map_nil, kept_snoc, hk]
      have h4 : kept3 (chN l.length) (u.take (i + 1)) = step3 E (chN l.length u[i]) (u[i] : Int) := by rw [tk, kept3_snoc, hE]
      have pb : ∀ v ∈ pl, 0 ≤ v ∧ v < 256 := by rw [h1]; exact plain_byte _ _ hl.1 fun p hp => hu p (List.mem_of_mem_take hp)
      have pn : pl.length = l.length := by rw [h1, plain_len]
      generalize u[i] = p at *
      have wb := with_bit_set (l := pl) (p := p) (b := 0) (.inl rfl) pb (by rw [pn]; exact hp) (by rw [pn]; exact hl.2)
      have cc := crc_change_ok (n := l.length) (p := p) hl.2 hp
      obtain ⟨D', E', ad, I', hk', hE'⟩ := add_ok I (ch_lt l.length p (by omega)) (p : Int)
      have m1 : isC "Span" "add" (spanD D) = true := rfl
      refine ⟨[some (.lst (l.map .int)), some (.lst (uD u)), some (.lst (pl.map .int)), some (spanD D), some (.int (p : Int))], fun z => z = .nx [some (.lst (l.map .int)), some (.lst (uD u)), some (.lst ((setB pl p 0).map .int)), some (spanD D'), some (.int (p : Int))], rfl, ?_, ?_⟩
      · show ((sSeq (sSet 2 (eCall den_with_bit [.val (eVar 2), .val (eVar 4), .val (eC (.int 0))] []))
    ((sDo (eMethO "Span" "add" den_Span_add 3 [.val (eCall den_crc_change [.val (eOp lenD [.val (eVar 0)]), .val (eVar 4)] []), .val (eVar 4)] [])))) _) = _
        generalize ((chN l.length p : Nat) : Int) = cn at *
        generalize (setB pl p 0).map Dt.int = SB at *
        generalize pl.map Dt.int = PL at *
        generalize l.map Dt.int = LL at *
        generalize uD u = UU at *
        generalize spanD D' = S2 at *
        generalize spanD D = SD at *
        simp? [wb, ll, cc, ad, m1]
      · rintro _ rfl
        exact ⟨(setB pl p 0, D', some (.int (p : Int))), rfl, h2.symm, E', I', by rw [h3]; exact hk', by rw [h4]; exact hE'⟩
    · obtain ⟨pl, D, a⟩ := y
      obtain ⟨h1, E, I, hk, hE⟩ := hy
      rw [List.take_length] at h1 hk hE
      simp only [] at h1
      subst h1
      exact ⟨D, E, a, rfl, I, hk, hE⟩
  · rintro _ ⟨D, E, a, rfl, I, hk, hE⟩
    refine wp_th1 ?_
    generalize hP : (plainL l u).map Dt.int = PL at *
    generalize l.map Dt.int = LL at *
    generalize uD u = UU at *
    generalize hS : spanD D = SD at *
    simp_all? []
    exact wq_rt ⟨D, E, by rw [hS]; rfl, I, hk, hE⟩
/-! ### how many ways there are, counted by the program -/
theorem chain_lt {a b c : EM Dt} {ρ : Env} {x y z : Int} (ha : a ρ = .ok (.int x) ρ) (hb : b ρ = .ok (.int y) ρ) (hc : c ρ = .ok (.int z) ρ) : eChain leD ltD a b c ρ = .ok (.bl (decide (x ≤ y ∧ y < z))) ρ := by
  rw [x_chain, ha, w_bd1, hb, w_bd1]
  by_cases h : x ≤ y
  · simp only [leD, ltD, decide_eq_true h, hc, w_bd1, h, true_and, decide_true]
  · simp only [leD, ltD, decide_eq_false h, h, false_and, decide_false]
theorem pow_at25 {g : Nat} (h : g < 25) : atI (k_POWERS.map Dt.int) (g : Int) = some (.int ((2 ^ g : Nat) : Int)) := by
  rcases Nat.lt_or_ge g 16 with h1 | h1
  · exact pow_at h1
  · obtain ⟨k, rfl⟩ : ∃ k, g = 16 + k := ⟨g - 16, by omega⟩
    match k, h with
    | 0, _ => rfl
    | 1, _ => rfl
    | 2, _ => rfl
    | 3, _ => rfl
    | 4, _ => rfl
    | 5, _ => rfl
    | 6, _ => rfl
    | 7, _ => rfl
    | 8, _ => rfl
    | k + 9, h => exact absurd h (by omega)
structure okU (l : List Int) (u : List Nat) : Prop where
  n : u.length ≤ 24
  b : ∀ p ∈ u, p < 8 * l.length
  s : u.Pairwise (· < ·)
theorem demand_ok {l : List Int} {u : List Nat} (hl : l.length ≤ 1000) (U : okU l u) : den_demand_unknown [.lst (l.map .int), .lst (uD u)] = .ok .non [] := by
  have key : Wq (den_demand_unknown [.lst (l.map .int), .lst (uD u)]) (fun q => q = .ok .non []) := ?_
  · exact key
  refine wq_run rfl ?_
  unfold body_demand_unknown
  have ll : (l.map Dt.int).length = l.length := List.length_map ..
  have ul : (uD u).length = u.length := List.length_map ..
  have un := U.n
  have u24 : ¬ (24 : Int) < (u.length : Int) := by omega
  have u24' : ¬ 24 < u.length := by omega
  have ul2 : (uD u).length ≤ 16777216 := by omega
  have c1 : compL [2] (gVar 2) cYes (eChain leD ltD (eC (.int 0)) (eVar 2) (eOp mulD [.val (eC (.int 8)), .val (eOp lenD [.val (eVar 0)])])) (uD u) [some (.lst (l.map .int)), some (.lst (uD u)), none, none] = .ok (u.map fun p : Nat => .bl (decide ((0 : Int) ≤ (p : Int) ∧ (p : Int) < 8 * (l.length : Int)))) [some (.lst (l.map .int)), some (.lst (uD u)), none, none] :=
    comp_mapC (fun p : Nat => Dt.int (p : Int)) (fun p : Nat => .bl (decide ((0 : Int) ≤ (p : Int) ∧ (p : Int) < 8 * (l.length : Int)))) (by simp) u fun p _ => chain_lt rfl rfl (by
      generalize l.map Dt.int = LL at *
      generalize uD u = UU at *
      have b1 : (8 : Int) * (l.length : Int) = 8 * (l.length : Int) := rfl
      simp? [ll])
  have b1 := x_allM (f := fun p : Nat => decide ((0 : Int) ≤ (p : Int) ∧ (p : Int) < 8 * (l.length : Int))) (l := u)
  rw [List.all_eq_true.mpr fun p hp => decide_eq_true ⟨by omega, by have := U.b p hp; omega⟩] at b1
  have gt : ∀ j : Nat, j < u.length → atI (uD u) (j : Int) = some (.int ((u.getD j 0 : Nat) : Int)) := fun j hj => atI_nat (by rw [List.getElem?_map, List.getElem?_eq_getElem hj, List.getD_eq_getElem?_getD, List.getElem?_eq_getElem hj]; rfl)
  have w2 : u.length = 0 ∨ rng2D [.int 1, .int (u.length : Int)] = some ((List.range (u.length - 1)).map fun j : Nat => Dt.int ((j : Int) + 1)) := by
    rcases Nat.eq_zero_or_pos u.length with h | h
    · exact .inl h
    · right
      rw [w_rg2 ⟨by omega, by omega, by omega, by omega⟩, rngL_map, List.map_map, show ((u.length : Int) - 1).toNat = u.length - 1 by omega]
      congr 1; apply List.map_congr_left; intro j _; simp [Int.add_comm]
  have w2 : rng2D [.int 1, .int (u.length : Int)] = some ((List.range (u.length - 1)).map fun j : Nat => Dt.int ((j : Int) + 1)) := by
    rcases w2 with h | h
    · rw [h]; rfl
    · exact h
  have c2 : compL [3] (gVar 3) cYes (eOp ltD [.val (eOp ixD [.val (eVar 1), .val (eOp subD [.val (eVar 3), .val (eC (.int 1))])]), .val (eOp ixD [.val (eVar 1), .val (eVar 3)])]) ((List.range (u.length - 1)).map fun j : Nat => Dt.int ((j : Int) + 1)) [some (.lst (l.map .int)), some (.lst (uD u)), none, none] = .ok ((List.range (u.length - 1)).map fun j : Nat => .bl (decide (((u.getD j 0 : Nat) : Int) < ((u.getD (j + 1) 0 : Nat) : Int)))) [some (.lst (l.map .int)), some (.lst (uD u)), none, none] :=
    comp_mapC (fun j : Nat => Dt.int ((j : Int) + 1)) (fun j : Nat => .bl (decide (((u.getD j 0 : Nat) : Int) < ((u.getD (j + 1) 0 : Nat) : Int)))) (by simp) _ fun j hj => by
      have hj := List.mem_range.mp hj
      have t1 := gt j (by omega)
      have t2 := gt (j + 1) (by omega)
      have s1 : ((j : Int) + 1 - 1) = (j : Int) := by omega
      rw [show ((j + 1 : Nat) : Int) = (j : Int) + 1 by omega] at t2
      generalize uD u = UU at *
      generalize l.map Dt.int = LL at *
      simp? [t1, t2, s1]
  have b2 := x_allM (f := fun j : Nat => decide (((u.getD j 0 : Nat) : Int) < ((u.getD (j + 1) 0 : Nat) : Int))) (l := List.range (u.length - 1))
  rw [List.all_eq_true.mpr fun j hj => by
    have hj := List.mem_range.mp hj
    have := List.pairwise_iff_getElem.mp U.s j (j + 1) (by omega) (by omega) (by omega)
    have e1 : u.getD j 0 = u[j] := by rw [List.getD_eq_getElem?_getD, List.getElem?_eq_getElem (by omega)]; rfl
    have e2 : u.getD (j + 1) 0 = u[j + 1] := by rw [List.getD_eq_getElem?_getD, List.getElem?_eq_getElem (by omega)]; rfl
    rw [e1, e2]; exact decide_eq_true (by omega)] at b2
  have l3 : ((List.range (u.length - 1)).map (fun j : Nat => Dt.int ((j : Int) + 1))).length ≤ 16777216 := by simp; omega
  generalize u.map (fun p : Nat => Dt.bl (decide ((0 : Int) ≤ (p : Int) ∧ (p : Int) < 8 * (l.length : Int)))) = L1 at *
  generalize (List.range (u.length - 1)).map (fun j : Nat => Dt.bl (decide (((u.getD j 0 : Nat) : Int) < ((u.getD (j + 1) 0 : Nat) : Int)))) = L2 at *
  generalize (List.range (u.length - 1)).map (fun j : Nat => Dt.int ((j : Int) + 1)) = L3 at *
  generalize uD u = UU at *
  generalize l.map Dt.int = LL at *
  simp_all? [sg_demand_unknown, ul, ul2, u24, u24', c1, b1, w2, c2, b2, l3, -w_rg2]
  exact wq_nx rfl
theorem solution_count_ok {l : List Int} {u : List Nat} (hl : okB l) (U : okU l u) {w : Nat} (hw : w < 65536) :
    den_solution_count [.lst (l.map .int), .lst (uD u), .int (w : Int)] = .ok (.int ((ways (u.map (chN l.length)) (crcN (plainL l u) ^^^ w) : Nat) : Int)) [] := by
  have key : Wq (den_solution_count [.lst (l.map .int), .lst (uD u), .int (w : Int)]) (fun q => q = .ok (.int ((ways (u.map (chN l.length)) (crcN (plainL l u) ^^^ w) : Nat) : Int)) []) := ?_
  · exact key
  refine wq_run rfl ?_
  unfold body_solution_count
  have dm := demand_ok hl.2 U
  obtain ⟨D, E, so, I, hk, _⟩ := span_of_ok hl U.b (by have := U.n; omega)
  have co := crc_ok (plainL l u)
  have xo := exclusive_ok (crcM (plainL l u)) (w : Int)
  rw [crc_N, Bits.bitXor_pp (Int.natCast_nonneg _) (Int.natCast_nonneg _)] at xo
  have xo : den_exclusive [.int ((crcN (plainL l u) : Nat) : Int), .int (w : Int)] = .ok (.int ((crcN (plainL l u) ^^^ w : Nat) : Int)) [] := xo
  rw [crc_N] at co
  have wy := ways_ok (u.map (chN l.length)) (crcN (plainL l u) ^^^ w)
  generalize ht : crcN (plainL l u) ^^^ w = t at *
  have ro := reduced_ok I t (ps := []) (Nat.zero_le _)
  have r1 := red3_1 E (t, [])
  rw [hk] at r1
  have r1 : (red3 E (t, [])).1 = redN (keptN (u.map (chN l.length))) t := r1
  rw [← r1] at wy
  have el : (keptN (u.map (chN l.length))).length = E.length := by rw [← hk, List.length_map]
  rw [el, List.length_map] at wy
  have Eu : E.length ≤ u.length := by
    have := (kept_of (u.map (chN l.length))).n
    rw [el, List.length_map] at this; exact this
  have kl : (ksD D).length = E.length := by unfold ksD; rw [List.length_map, I.p.length_eq]
  have ul : (uD u).length = u.length := List.length_map ..
  have un := U.n
  have ro : den_Span_reduced [spanD D, .int (t : Int), .lst []] = .ok (.tup [.int ((red3 E (t, [])).1 : Int), .lst ((red3 E (t, [])).2.map .int)]) [] := ro
  generalize (red3 E (t, [])).2.map Dt.int = R2 at *
  generalize (red3 E (t, [])).1 = x at *
  have m1 : isC "Span" "reduced" (spanD D) = true := rfl
  refine wp_eq (ρ' := [some (.lst (l.map .int)), some (.lst (uD u)), some (.int (w : Int)), none, none, none, none]) ?_ ?_
  · generalize l.map Dt.int = LL at *
    generalize uD u = UU at *
    simp? [dm, sg_solution_count]
  refine wp_eq (ρ' := [some (.lst (l.map .int)), some (.lst (uD u)), some (.int (w : Int)), some (.lst ((plainL l u).map .int)), some (spanD D), none, none]) ?_ ?_
  · generalize (plainL l u).map Dt.int = PL at *
    generalize l.map Dt.int = LL at *
    generalize uD u = UU at *
    generalize spanD D = SD at *
    simp? [so]
  refine wp_eq (ρ' := [some (.lst (l.map .int)), some (.lst (uD u)), some (.int (w : Int)), some (.lst ((plainL l u).map .int)), some (spanD D), some (.int (x : Int)), some (.lst R2)]) ?_ ?_
  · generalize ((crcN (plainL l u) : Nat) : Int) = cp at *
    generalize (plainL l u).map Dt.int = PL at *
    generalize l.map Dt.int = LL at *
    generalize uD u = UU at *
    generalize spanD D = SD at *
    simp? [co, xo, ro, m1]
  rw [wy]
  by_cases h0 : x = 0
  · rw [if_pos h0]
    subst h0
    have pa := pow_at25 (g := u.length - E.length) (by omega)
    rw [show ((u.length - E.length : Nat) : Int) = (u.length : Int) - (E.length : Int) by omega] at pa
    generalize ((2 ^ (u.length - E.length) : Nat) : Int) = pw at *
    generalize (plainL l u).map Dt.int = PL at *
    generalize l.map Dt.int = LL at *
    generalize uD u = UU at *
    unfold spanD at *
    generalize ksD D = DD at *
    generalize k_POWERS.map Dt.int = PW at *
    simp_all? [ul, kl, pa, lenDD, dicI]
    exact wq_rt rfl
  · rw [if_neg h0]
    have x0 : (0 : Int) < (x : Int) := by omega
    have x0' : 0 < x := by omega
    generalize (plainL l u).map Dt.int = PL at *
    generalize l.map Dt.int = LL at *
    generalize uD u = UU at *
    generalize spanD D = SD at *
    simp_all? [x0, x0']
    exact wq_rt rfl
/-! ### the settings of unknown bits, by the law -/
theorem byte_bitflip : ∀ v : Fin 256, ∀ j k : Fin 8, (Builtin.bitXor (v.val : Int) (128 / 2 ^ j.val)) / 2 ^ (7 - k.val) % 2 = if k.val = j.val then 1 - (v.val : Int) / 2 ^ (7 - k.val) % 2 else (v.val : Int) / 2 ^ (7 - k.val) % 2 := by decide +kernel
theorem bit_flip {l : List Int} {p q : Nat} (hl : ∀ v ∈ l, 0 ≤ v ∧ v < 256) (hp : p < 8 * l.length) (hq : q < 8 * l.length) : bitA (flipB l (p : Int)) q = if q = p then 1 - bitA l q else bitA l q := by
  unfold bitA flipB
  rw [show ((p : Int) / 8).toNat = p / 8 by omega, show ((p : Int) % 8).toNat = p % 8 by omega, nI_set (by omega), Int.toNat_natCast]
  by_cases h : q / 8 = p / 8
  · rw [if_pos h, h, show ((p : Int) / 8) = ((p / 8 : Nat) : Int) by omega]
    have hv := nI_in (l := l) (i := ((p / 8 : Nat) : Int)) (by omega) (by omega)
    obtain ⟨v0, v1⟩ := hl _ hv
    generalize nI l ((p / 8 : Nat) : Int) = v at *
    obtain ⟨n, rfl⟩ : ∃ n : Nat, v = n := ⟨v.toNat, by omega⟩
    have := byte_bitflip ⟨n, by omega⟩ ⟨p % 8, by omega⟩ ⟨q % 8, by omega⟩
    simp only [] at this
    rw [this]
    by_cases e : q % 8 = p % 8
    · rw [if_pos e, if_pos (by omega)]
    · rw [if_neg e, if_neg (by omega)]
  · rw [if_neg h, if_neg (by omega)]
theorem and7 (p : Nat) : Builtin.bitAnd (p : Int) 7 = ((p % 8 : Nat) : Int) := by
  have := bitAnd_ppN p 7
  rw [show ((7 : Nat) : Int) = 7 from rfl] at this
  rw [this, show (7 : Nat) = 2 ^ 3 - 1 from rfl, Nat.and_two_pow_sub_one_eq_mod]
theorem or_bit : ∀ v : Fin 256, ∀ j : Fin 8, Builtin.bitOr (v.val : Int) (2 ^ (7 - j.val)) = (v.val : Int) + 2 ^ (7 - j.val) * (1 - (v.val : Int) / 2 ^ (7 - j.val) % 2) := by decide +kernel
theorem set_val {v w b : Int} (hb : b = 0 ∨ b = 1) : v + w * (1 - v / w % 2) - w * (1 - b) = if v / w % 2 = b then v else v + w - 2 * w * (v / w % 2) := by
  have h01 : v / w % 2 = 0 ∨ v / w % 2 = 1 := by omega
  generalize v / w % 2 = x at *
  rcases hb with rfl | rfl <;> rcases h01 with rfl | rfl <;> simp <;> omega
theorem setB_list {l : List Int} {p : Nat} {b : Int} (hl : ∀ v ∈ l, 0 ≤ v ∧ v < 256) (hp : p < 8 * l.length) (hb : b = 0 ∨ b = 1) :
    setB l p b = l.set (p / 8) (nI l ((p / 8 : Nat) : Int) + 2 ^ (7 - p % 8) * (1 - nI l ((p / 8 : Nat) : Int) / 2 ^ (7 - p % 8) % 2) - 2 ^ (7 - p % 8) * (1 - b)) := by
  have hi : p / 8 < l.length := by omega
  have hv := hl _ (nI_in (l := l) (i := ((p / 8 : Nat) : Int)) (by omega) (by omega))
  rw [set_val hb]
  unfold setB bitA
  split
  · rw [nI_nat hi, List.set_getElem_self]
  · have m8 : (p : Int) % 8 = ((p % 8 : Nat) : Int) := by omega
    have d8 : (p : Int) / 8 = ((p / 8 : Nat) : Int) := by omega
    unfold flipB
    rw [d8, m8, Int.toNat_natCast, Int.toNat_natCast, pw128 (p % 8) (by omega)]
    congr 1
    obtain ⟨n, hn⟩ : ∃ n : Nat, nI l ((p / 8 : Nat) : Int) = n := ⟨(nI l ((p / 8 : Nat) : Int)).toNat, by omega⟩
    rw [hn]
    have := flipW_nat n (7 - p % 8)
    unfold flipW at this
    rw [pwc, this, Bits.bitXor_pp (Int.natCast_nonneg _) (Int.natCast_nonneg _)]
    rfl
theorem set_bit_ok {l : List Int} {p : Nat} {b : Int} (hb : b = 0 ∨ b = 1) (hl : ∀ v ∈ l, 0 ≤ v ∧ v < 256) (hp : p < 8 * l.length) (hn : l.length ≤ 1000) : den_z_law_set_bit [.lst (l.map .int), .int (p : Int), .int b] = .ok (.lst ((setB l p b).map .int)) [] := by
  have key : Wq (den_z_law_set_bit [.lst (l.map .int), .int (p : Int), .int b]) (fun q => q = .ok (.lst ((setB l p b).map .int)) []) := ?_
  · exact key
  refine wq_run rfl ?_
  unfold body_z_law_set_bit
  rw [setB_list hl hp hb]
  have hi : p / 8 < l.length := by omega
  have hv := hl _ (nI_in (l := l) (i := ((p / 8 : Nat) : Int)) (by omega) (by omega))
  have a7 := and7 p
  have s3 : (p : Int) / 2 ^ (3 : Int).toNat = ((p / 8 : Nat) : Int) := by show (p : Int) / 8 = _; omega
  have s128 : (128 : Int) / 2 ^ (((p % 8 : Nat) : Int)).toNat = 2 ^ (7 - p % 8) := by rw [Int.toNat_natCast, pw128 (p % 8) (by omega), pwc]
  have s3' : (p : Int) / 8 = ((p / 8 : Nat) : Int) := by omega
  have s128' : (128 : Int) / 2 ^ (p % 8) = 2 ^ (7 - p % 8) := by rw [pw128 (p % 8) (by omega), pwc]
  have at1 := atI_getD (l := l) hi
  have nv : l.getD (p / 8) 0 = nI l ((p / 8 : Nat) : Int) := by unfold nI; rw [Int.toNat_natCast]
  rw [nv] at at1
  have ob : Builtin.bitOr (nI l ((p / 8 : Nat) : Int)) (2 ^ (7 - p % 8)) = nI l ((p / 8 : Nat) : Int) + 2 ^ (7 - p % 8) * (1 - nI l ((p / 8 : Nat) : Int) / 2 ^ (7 - p % 8) % 2) := by
    have := or_bit ⟨(nI l ((p / 8 : Nat) : Int)).toNat, by omega⟩ ⟨p % 8, by omega⟩
    simp only [] at this
    rwa [show (((nI l ((p / 8 : Nat) : Int)).toNat : Nat) : Int) = nI l ((p / 8 : Nat) : Int) by omega] at this
  obtain ⟨p0, p1⟩ := pw_pos (7 - p % 8) (by omega)
  have tn := w_toN (n := l.length) (i := ((p / 8 : Nat) : Int)) (by omega) (by omega)
  rw [Int.toNat_natCast] at tn
  have ll : (l.map Dt.int).length = l.length := List.length_map ..
  have l2 : (l.map Dt.int).length ≤ 16777216 := by rw [ll]; omega
  have pn0 : (0 : Int) ≤ ((p % 8 : Nat) : Int) := by omega
  generalize nI l ((p / 8 : Nat) : Int) = v at *
  generalize (2 : Int) ^ (7 - p % 8) = w at *
  generalize p % 8 = j at *
  generalize p / 8 = i at *
  have wb : w < 18446744073709551616 := by omega
  have wb2 : -18446744073709551616 < w := by omega
  rw [List.map_set]
  generalize v + w * (1 - v / w % 2) = ov at *
  generalize l.map Dt.int = LL at *
  simp_all? [sg_z_law_set_bit, a7, s3, s128, s3', s128', at1, ob, p0, p1, wb, wb2, tn, ll, l2, pn0, -w_atI]
  exact wq_rt (by first | rfl | simp [outsOf, sg_z_law_set_bit])
/-- all settings -/
def setsL (l : List Int) (u : List Nat) : List (List Int) := u.foldl (fun rows p => rows.flatMap fun r => [setB r p 0, setB r p 1]) [l]
theorem sets_snoc (l : List Int) (u : List Nat) (p : Nat) : setsL l (u ++ [p]) = (setsL l u).flatMap fun r => [setB r p 0, setB r p 1] := by unfold setsL; rw [List.foldl_append]; rfl
theorem setB_other {l : List Int} {p q : Nat} {b : Int} (hl : ∀ v ∈ l, 0 ≤ v ∧ v < 256) (hp : p < 8 * l.length) (hq : q < 8 * l.length) (ne : q ≠ p) : bitA (setB l p b) q = bitA l q := by
  unfold setB
  split
  · rfl
  · rw [bit_flip hl hp hq, if_neg ne]
theorem setB_crc {l : List Int} {p : Nat} {b : Int} (hl : ∀ v ∈ l, 0 ≤ v ∧ v < 256) (hp : p < 8 * l.length) : crcN (setB l p b) = if bitA l p = b then crcN l else crcN l ^^^ chN l.length p := by
  unfold setB
  split
  · rfl
  · exact crc_flipN hl hp
structure RowU (l : List Int) (u : List Nat) (r : List Int) : Prop where
  n : r.length = l.length
  b : ∀ v ∈ r, 0 ≤ v ∧ v < 256
  q : ∀ q, q < 8 * l.length → q ∉ u → bitA r q = bitA l q
theorem RowU.set {l r : List Int} {u : List Nat} (R : RowU l u r) {p : Nat} (hp : p < 8 * l.length) (b : Int) : RowU l (u ++ [p]) (setB r p b) := ⟨setB_len.trans R.n, setB_byte R.b (by rw [R.n]; exact hp), fun q hq h => by
  have h1 : q ∉ u := fun z => h (List.mem_append.mpr (.inl z))
  have h2 : q ≠ p := fun z => h (List.mem_append.mpr (.inr (List.mem_singleton.mpr z)))
  rw [setB_other R.b (by rw [R.n]; exact hp) (by rw [R.n]; exact hq) h2]
  exact R.q q hq h1⟩
theorem sets_rows {l : List Int} (hl : ∀ v ∈ l, 0 ≤ v ∧ v < 256) : ∀ (n : Nat) (u : List Nat), u.length = n → (∀ p ∈ u, p < 8 * l.length) → (∀ r ∈ setsL l u, RowU l u r) ∧ RowU l u (plainL l u) := by
  intro n
  induction n with
  | zero =>
    intro u hn hu
    have : u = [] := List.length_eq_zero_iff.mp hn
    subst this
    exact ⟨fun r h => by rw [List.mem_singleton.mp h]; exact ⟨rfl, hl, fun _ _ _ => rfl⟩, ⟨rfl, hl, fun _ _ _ => rfl⟩⟩
  | succ n ih =>
    intro u hn hu
    obtain ⟨v, p, rfl⟩ : ∃ v p, u = v ++ [p] := ⟨u.dropLast, u.getLast (fun e => by rw [e] at hn; cases hn), (List.dropLast_concat_getLast _).symm⟩
    have hv : v.length = n := by rw [List.length_append] at hn; simpa using hn
    obtain ⟨h1, h2⟩ := ih v hv fun q hq => hu q (List.mem_append.mpr (.inl hq))
    have hp := hu p (List.mem_append.mpr (.inr (List.mem_singleton.mpr rfl)))
    refine ⟨fun r h => ?_, by rw [plain_snoc]; exact h2.set hp 0⟩
    rw [sets_snoc] at h
    obtain ⟨r0, hr0, h⟩ := List.mem_flatMap.mp h
    rcases List.mem_cons.mp h with rfl | h
    · exact (h1 r0 hr0).set hp 0
    · rw [List.mem_singleton.mp h]; exact (h1 r0 hr0).set hp 1
def cntC (rows : List (List Int)) (t : Nat) : Nat := rows.countP fun r => decide (crcN r = t)
theorem xor_eq {a b c : Nat} : a ^^^ b = c ↔ a = c ^^^ b := ⟨fun h => by rw [← h, xor_can], fun h => by rw [h, xor_can]⟩
theorem cnt_two {l : List Int} {u : List Nat} {p : Nat} (hp : p < 8 * l.length) (hn : p ∉ u) (t : Nat) : ∀ (rows : List (List Int)), (∀ r ∈ rows, RowU l u r) →
    cntC (rows.flatMap fun r => [setB r p 0, setB r p 1]) t = cntC rows t + cntC rows (t ^^^ chN l.length p)
  | [], _ => rfl
  | r :: rs, h => by
    have R := h r (.head _)
    have ih := cnt_two hp hn t rs fun x hx => h x (.tail _ hx)
    have e0 := setB_crc (b := 0) R.b (p := p) (by rw [R.n]; exact hp)
    have e1 := setB_crc (b := 1) R.b (p := p) (by rw [R.n]; exact hp)
    rw [R.n] at e0 e1
    have h01 := bitA01 r p
    unfold cntC at *
    have x1 : decide (crcN r ^^^ chN l.length p = t) = decide (crcN r = t ^^^ chN l.length p) := decide_eq_decide.mpr xor_eq
    have key : ((if decide (crcN (setB r p 0) = t) = true then 1 else 0) + if decide (crcN (setB r p 1) = t) = true then 1 else 0) = ((if decide (crcN r = t) = true then 1 else 0) + if decide (crcN r = t ^^^ chN l.length p) = true then 1 else 0) := by
      rcases h01 with z | z
      · rw [z] at e0 e1
        have e0 : crcN (setB r p 0) = crcN r := e0
        have e1 : crcN (setB r p 1) = crcN r ^^^ chN l.length p := e1
        rw [e0, e1, x1]
      · rw [z] at e0 e1
        have e0 : crcN (setB r p 0) = crcN r ^^^ chN l.length p := e0
        have e1 : crcN (setB r p 1) = crcN r := e1
        rw [e0, e1, x1]; omega
    rw [List.flatMap_cons, List.countP_append, ih, List.countP_cons, List.countP_cons, List.countP_cons, List.countP_cons, List.countP_nil]
    omega
theorem cnt_ways {l : List Int} (hl : ∀ v ∈ l, 0 ≤ v ∧ v < 256) : ∀ (n : Nat) (u : List Nat), u.length = n → (∀ p ∈ u, p < 8 * l.length) → u.Nodup → ∀ t, cntC (setsL l u) t = ways (u.map (chN l.length)) (crcN (plainL l u) ^^^ t) := by
  intro n
  induction n with
  | zero =>
    intro u hn hu _ t
    have : u = [] := List.length_eq_zero_iff.mp hn
    subst this
    show cntC [l] t = if crcN l ^^^ t = 0 then 1 else 0
    have : crcN l ^^^ t = 0 ↔ crcN l = t := by rw [xor_eq, Nat.zero_xor]
    unfold cntC
    rw [List.countP_cons, List.countP_nil]
    by_cases h : crcN l = t
    · rw [decide_eq_true h, if_pos (this.mpr h)]; rfl
    · rw [decide_eq_false h, if_neg (fun z => h (this.mp z))]; rfl
  | succ n ih =>
    intro u hn hu nd t
    obtain ⟨v, p, rfl⟩ : ∃ v p, u = v ++ [p] := ⟨u.dropLast, u.getLast (fun e => by rw [e] at hn; cases hn), (List.dropLast_concat_getLast _).symm⟩
    have hv : v.length = n := by rw [List.length_append] at hn; simpa using hn
    have hvu : ∀ q ∈ v, q < 8 * l.length := fun q hq => hu q (List.mem_append.mpr (.inl hq))
    have hp := hu p (List.mem_append.mpr (.inr (List.mem_singleton.mpr rfl)))
    have nd2 := List.nodup_append.mp nd
    have hpv : p ∉ v := fun h => nd2.2.2 p h p (List.mem_singleton.mpr rfl) rfl
    obtain ⟨rows, pr⟩ := sets_rows hl n v hv hvu
    rw [sets_snoc, cnt_two hp hpv t _ rows, ih v hv hvu nd2.1, ih v hv hvu nd2.1, List.map_append, List.map_cons, List.map_nil, ways_snoc, plain_snoc]
    have e := setB_crc (b := 0) pr.b (p := p) (by rw [pr.n]; exact hp)
    rw [pr.n] at e
    rw [e]
    generalize crcN (plainL l v) = x
    generalize chN l.length p = c
    generalize v.map (chN l.length) = cs
    split
    · rw [← Nat.xor_assoc]
    · rw [← Nat.xor_assoc, xor_swap x t c, xor_swap (x ^^^ c) t c, xor_can, Nat.add_comm]
theorem sets_len (l : List Int) : ∀ (n : Nat) (v : List Nat), v.length = n → (setsL l v).length = 2 ^ n := by
  intro n
  induction n with
  | zero => intro v hv; rw [List.length_eq_zero_iff.mp hv]; rfl
  | succ n ih =>
    intro v hv
    obtain ⟨w, p, rfl⟩ : ∃ w p, v = w ++ [p] := ⟨v.dropLast, v.getLast (fun e => by rw [e] at hv; cases hv), (List.dropLast_concat_getLast _).symm⟩
    have hw : w.length = n := by rw [List.length_append] at hv; simpa using hv
    rw [sets_snoc, List.length_flatMap, Nat.pow_succ, ← ih w hw]
    have : ∀ rows : List (List Int), (rows.map fun r => [setB r p 0, setB r p 1].length).sum = rows.length * 2 := by
      intro rows
      induction rows with
      | nil => rfl
      | cons a r ih => rw [List.map_cons, List.sum_cons, ih, List.length_cons]; simp only [List.length_cons, List.length_nil]; omega
    exact this _
/-! ### drawn places; all settings -/
def tD (ks : List Int) : List (Dt × Dt) := ks.map fun k => (.int k, .bl true)
theorem tD_put (ks : List Int) (v : Int) : putL (tD ks) (.inl v) (.bl true) = tD (if v ∈ ks then ks else ks ++ [v]) := by
  unfold putL
  have ha : (tD ks).any (fun p => eqKD p.1 (.inl v)) = decide (v ∈ ks) := by
    unfold tD
    rw [List.any_map, Bool.eq_iff_iff, List.any_eq_true, decide_eq_true_iff]
    exact ⟨fun ⟨j, h1, h2⟩ => by rw [← of_decide_eq_true (h2 : decide (j = v) = true)]; exact h1, fun h => ⟨v, h, decide_eq_true rfl⟩⟩
  rw [ha]
  by_cases h : v ∈ ks
  · rw [if_pos (decide_eq_true h), if_pos h]
    unfold tD
    rw [List.map_map]
    apply List.map_congr_left
    intro j _
    show (if decide (j = v) = true then _ else _) = _
    split <;> rfl
  · rw [if_neg (by simpa using h), if_neg h]
    unfold tD
    rw [List.map_append]; rfl
theorem tD_sort {ks : List Int} (h : ks.length < 64) : sortedDD [.dic (tD ks)] = some (.lst ((sortI ks).map .int)) := by
  have hk : (tD ks).map (·.1) = ks.map .int := by unfold tD; rw [List.map_map]; rfl
  show (match intsD ((tD ks).map (·.1)) with | some ns => if ns.length < 64 then some (Dt.lst ((sortI ns).map .int)) else none | none => none) = _
  rw [hk, intsD_map]
  exact if_pos h
theorem places_in_ok (p : Pool) {k z : Nat} (hk : k ≤ 60) (hz : 0 < z ∧ z ≤ 10000) : ∃ (u : List Nat) (p' : Pool), den_z_law_places_in [pD p, .int (k : Int), .int (z : Int)] = .ok (.lst (uD u)) [some (pD p')] ∧ u.length ≤ k ∧ (∀ q ∈ u, q < z) ∧ u.Pairwise (· < ·) := by
  have key : Wq (den_z_law_places_in [pD p, .int (k : Int), .int (z : Int)]) (fun q => ∃ (u : List Nat) (p' : Pool), q = .ok (.lst (uD u)) [some (pD p')] ∧ u.length ≤ k ∧ (∀ q ∈ u, q < z) ∧ u.Pairwise (· < ·)) := ?_
  · exact key
  refine wq_run rfl ?_
  unfold body_z_law_places_in
  refine wp_eq (ρ' := [some (pD p), some (.int (k : Int)), some (.int (z : Int)), some (.dic (tD [])), none]) rfl ?_
  refine wp_st (R := fun y => ∃ (p' : Pool) (ks : List Int) (a : Option Dt), y = .nx [some (pD p'), some (.int (k : Int)), some (.int (z : Int)), some (.dic (tD ks)), a] ∧ ks.length ≤ k ∧ ks.Nodup ∧ ∀ q ∈ ks, 0 ≤ q ∧ q < (z : Int)) ?_ ?_
  · have w1 : rng1D [.int (k : Int)] = some (rngL 0 k) := by rw [w_rg1 ⟨by omega, by omega⟩]; rfl
    have ei : (iOpA rng1D [.val (eVar 1)]) [some (pD p), some (.int (k : Int)), some (.int (z : Int)), some (.dic (tD [])), none] = .ok (rngL 0 k) [some (pD p), some (.int (k : Int)), some (.int (z : Int)), some (.dic (tD [])), none] := by
      generalize pD p = PP at *
      generalize tD [] = TT at *
      generalize rngL 0 k = RL at *
      simp? [w1, -w_rg1]
    rw [w_for, ei, w_go1]
    refine wp_rg2 (fun y : Pool × List Int × Option Dt => [some (pD y.1), some (.int (k : Int)), some (.int (z : Int)), some (.dic (tD y.2.1)), y.2.2]) (fun i y => y.2.1.length ≤ i ∧ y.2.1.Nodup ∧ ∀ q ∈ y.2.1, 0 ≤ q ∧ q < (z : Int)) (p, [], none) rfl ⟨Nat.le_refl _, List.nodup_nil, fun _ h => nomatch h⟩ (fun i y hi hy => ?_) fun y hy => ?_
    · obtain ⟨p, ks, a⟩ := y
      obtain ⟨h1, h2, h3⟩ := hy
      simp only [] at h1 h2 h3
      obtain ⟨v, p', d, v0, v1⟩ := draw_ok p (m := (z : Int)) (by omega) (by omega)
      have pk := tD_put ks v
      have inv : (if v ∈ ks then ks else ks ++ [v]).length ≤ i + 1 ∧ (if v ∈ ks then ks else ks ++ [v]).Nodup ∧ ∀ q ∈ (if v ∈ ks then ks else ks ++ [v]), 0 ≤ q ∧ q < (z : Int) := by
        split
        · exact ⟨by omega, h2, h3⟩
        · rename_i h
          refine ⟨by rw [List.length_append]; simp only [List.length_cons, List.length_nil]; omega, List.nodup_append.mpr ⟨h2, by simp, fun x hx y hy e => h (by rw [List.mem_singleton.mp hy] at e; rw [← e]; exact hx)⟩, fun k hk => ?_⟩
          rcases List.mem_append.mp hk with hk | hk
          · exact h3 k hk
          · rw [List.mem_singleton.mp hk]; exact ⟨v0, v1⟩
      have kn : (tD ks).length < 16777216 := by unfold tD; rw [List.length_map]; omega
      refine ⟨[some (pD p), some (.int (k : Int)), some (.int (z : Int)), some (.dic (tD ks)), some (.int (i : Int))], fun y => y = .nx [some (pD p'), some (.int (k : Int)), some (.int (z : Int)), some (.dic (tD (if v ∈ ks then ks else ks ++ [v]))), some (.int (i : Int))], rfl, ?_, ?_⟩
      · show ((sDPut 3 (eCall den_z_law_draw [.own 0, .val (eVar 2)] []) (eC (.bl true))) _) = _
        generalize tD (if v ∈ ks then ks else ks ++ [v]) = T2 at *
        generalize tD ks = TT at *
        generalize pD p' = P2 at *
        generalize pD p = PP at *
        simp? [d, pk, kn]
      · rintro _ rfl
        exact ⟨(p', _, _), rfl, inv⟩
    · obtain ⟨p, ks, a⟩ := y
      obtain ⟨h1, h2, h3⟩ := hy
      exact ⟨p, ks, a, rfl, h1, h2, h3⟩
  · rintro _ ⟨p', ks, a, rfl, h1, h2, h3⟩
    refine wp_th1 ?_
    have so := tD_sort (ks := ks) (by omega)
    have pm := sortI_perm ks
    have hb : ∀ k ∈ sortI ks, 0 ≤ k ∧ k < (z : Int) := fun k hk => h3 k (pm.mem_iff.mp hk)
    have sl : (sortI ks).Pairwise (· < ·) := by
      have h4 := sortI_sorted ks
      have h5 := pm.nodup_iff.mpr h2
      exact (List.pairwise_and_iff.mpr ⟨h4, h5⟩).imp fun ⟨a, b⟩ => by omega
    have eu : (sortI ks).map .int = uD ((sortI ks).map Int.toNat) := by
      unfold uD
      rw [List.map_map]
      apply List.map_congr_left
      intro k hk
      have := hb k hk
      show Dt.int k = .int ((k.toNat : Nat) : Int)
      rw [Int.toNat_of_nonneg this.1]
    rw [eu] at so
    have ul : ((sortI ks).map Int.toNat).length ≤ k := by rw [List.length_map, pm.length_eq]; exact h1
    have ub : ∀ q ∈ (sortI ks).map Int.toNat, q < z := fun q hq => by
      obtain ⟨k, hk, rfl⟩ := List.mem_map.mp hq
      have := hb k hk; omega
    have us : ((sortI ks).map Int.toNat).Pairwise (· < ·) := by
      rw [List.pairwise_map, List.pairwise_iff_forall_sublist]
      intro a b hs
      have h6 := (List.pairwise_iff_forall_sublist.mp sl) hs
      have ha := hb a (hs.subset (.head _))
      omega
    generalize hU : uD ((sortI ks).map Int.toNat) = UU at *
    generalize hP : pD p' = PP at *
    generalize tD ks = TT at *
    simp_all? [so]
    exact wq_rt ⟨_, p', by rw [hP, hU]; rfl, ul, ub, us⟩
theorem settings_ok {l : List Int} (hl : okB l) {u : List Nat} (un : u.length ≤ 6) (hu : ∀ p ∈ u, p < 8 * l.length) :
    den_z_law_settings [.lst (l.map .int), .lst (uD u)] = .ok (.lst ((setsL l u).map rowD)) [] := by
  have key : Wq (den_z_law_settings [.lst (l.map .int), .lst (uD u)]) (fun q => q = .ok (.lst ((setsL l u).map rowD)) []) := ?_
  · exact key
  refine wq_run rfl ?_
  unfold body_z_law_settings
  have l2 : (l.map Dt.int).length ≤ 16777216 := by rw [List.length_map]; have := hl.2; omega
  have ul : (uD u).length ≤ 16777216 := by rw [List.length_map]; omega
  refine wp_eq (ρ' := [some (.lst (l.map .int)), some (.lst (uD u)), some (.lst ((setsL l []).map rowD)), none, none, none]) ?_ ?_
  · show _ = Sr.nx [some (.lst (l.map .int)), some (.lst (uD u)), some (.lst [.lst (l.map .int)]), none, none, none]
    generalize l.map Dt.int = LL at *
    generalize uD u = UU at *
    simp? [l2, sg_z_law_settings]
  have cnt : ∀ (v : List Nat), (setsL l v).length = 2 ^ v.length := by
    have : ∀ (n : Nat) (v : List Nat), v.length = n → (setsL l v).length = 2 ^ n := by
      intro n
      induction n with
      | zero => intro v hv; rw [List.length_eq_zero_iff.mp hv]; rfl
      | succ n ih =>
        intro v hv
        obtain ⟨w, p, rfl⟩ : ∃ w p, v = w ++ [p] := ⟨v.dropLast, v.getLast (fun e => by rw [e] at hv; cases hv), (List.dropLast_concat_getLast _).symm⟩
        have hw : w.length = n := by rw [List.length_append] at hv; simpa using hv
        rw [sets_snoc, List.length_flatMap, Nat.pow_succ, ← ih w hw]
        have : ∀ rows : List (List Int), (rows.map fun r => [setB r p 0, setB r p 1].length).sum = rows.length * 2 := by
          intro rows
          induction rows with
          | nil => rfl
          | cons a r ih => rw [List.map_cons, List.sum_cons, ih, List.length_cons]; simp only [List.length_cons, List.length_nil]; omega
        exact this _
    exact fun v => this _ v rfl
  refine wp_st (R := fun y => ∃ a b c, y = .nx [some (.lst (l.map .int)), some (.lst (uD u)), some (.lst ((setsL l u).map rowD)), a, b, c]) ?_ ?_
  · have ei : (iSeqD (eVar 1)) [some (.lst (l.map .int)), some (.lst (uD u)), some (.lst ((setsL l []).map rowD)), none, none, none] = .ok (uD u) [some (.lst (l.map .int)), some (.lst (uD u)), some (.lst ((setsL l []).map rowD)), none, none, none] := by
      generalize (setsL l []).map rowD = SS at *
      generalize l.map Dt.int = LL at *
      generalize uD u = UU at *
      simp? [ul]
    rw [w_for, ei, w_go1]
    refine wp_ix2 (fun y : List (List Int) × Option Dt × Option Dt × Option Dt => [some (.lst (l.map .int)), some (.lst (uD u)), some (.lst (y.1.map rowD)), y.2.1, y.2.2.1, y.2.2.2]) (fun i y => y.1 = setsL l (u.take i)) (setsL l [], none, none, none) rfl rfl (fun i y hi hy => ?_) fun y hy => ?_
    · obtain ⟨rows, a, b, c⟩ := y
      simp only [] at hy
      have hp := hu _ (List.getElem_mem hi)
      have e : setsL l (u.take (i + 1)) = rows.flatMap fun r => [setB r u[i] 0, setB r u[i] 1] := by rw [List.take_succ_eq_append_getElem hi, sets_snoc, hy]
      have rn : rows.length ≤ 64 := by
        rw [hy, cnt, List.length_take]
        have : 2 ^ min i u.length ≤ 2 ^ 6 := Nat.pow_le_pow_right (by decide) (by omega)
        exact this
      have rr : ∀ r ∈ rows, RowU l (u.take i) r := by rw [hy]; exact (sets_rows hl.1 _ (u.take i) rfl fun q hq => hu q (List.mem_of_mem_take hq)).1
      generalize u[i] = p at *
      refine ⟨[some (.lst (l.map .int)), some (.lst (uD u)), some (.lst (rows.map rowD)), some (.int (p : Int)), b, c], fun y => ∃ b c, y = .nx [some (.lst (l.map .int)), some (.lst (uD u)), some (.lst ((setsL l (u.take (i + 1))).map rowD)), some (.int (p : Int)), b, c], rfl, ?_, ?_⟩
      · refine wp_eq (ρ' := [some (.lst (l.map .int)), some (.lst (uD u)), some (.lst (rows.map rowD)), some (.int (p : Int)), some (.lst (([] : List (List Int)).map rowD)), c]) rfl ?_
        refine wp_st (R := fun y => ∃ c, y = .nx [some (.lst (l.map .int)), some (.lst (uD u)), some (.lst (rows.map rowD)), some (.int (p : Int)), some (.lst ((setsL l (u.take (i + 1))).map rowD)), c]) ?_ ?_
        · have rl : (rows.map rowD).length ≤ 16777216 := by rw [List.length_map]; omega
          have ei2 : (iSeqD (eVar 2)) [some (.lst (l.map .int)), some (.lst (uD u)), some (.lst (rows.map rowD)), some (.int (p : Int)), some (.lst (([] : List (List Int)).map rowD)), c] = .ok (rows.map rowD) [some (.lst (l.map .int)), some (.lst (uD u)), some (.lst (rows.map rowD)), some (.int (p : Int)), some (.lst (([] : List (List Int)).map rowD)), c] := by
            generalize ([] : List (List Int)).map rowD = NN at *
            generalize rows.map rowD = SS at *
            generalize l.map Dt.int = LL at *
            generalize uD u = UU at *
            simp? [rl]
          rw [w_for, ei2, w_go1]
          refine wp_ix2 (fun y : List (List Int) × Option Dt => [some (.lst (l.map .int)), some (.lst (uD u)), some (.lst (rows.map rowD)), some (.int (p : Int)), some (.lst (y.1.map rowD)), y.2]) (fun j y => y.1 = (rows.take j).flatMap fun r => [setB r p 0, setB r p 1]) ([], c) rfl (by simp) (fun j y hj hy => ?_) fun y hy => ?_
          · obtain ⟨acc, c⟩ := y
            simp only [] at hy
            have R := rr _ (List.getElem_mem hj)
            have e3 : (rows.take (j + 1)).flatMap (fun r => [setB r p 0, setB r p 1]) = acc ++ [setB rows[j] p 0, setB rows[j] p 1] := by
              rw [List.take_succ_eq_append_getElem hj, List.flatMap_append, hy]; simp
            have an : acc.length ≤ 128 := by
              rw [hy, List.length_flatMap]
              have : ∀ rows : List (List Int), (rows.map fun r => [setB r p 0, setB r p 1].length).sum = rows.length * 2 := by
                intro rows
                induction rows with
                | nil => rfl
                | cons a r ih => rw [List.map_cons, List.sum_cons, ih, List.length_cons]; simp only [List.length_cons, List.length_nil]; omega
              rw [this, List.length_take]; omega
            generalize rows[j] = r at *
            have s0 := set_bit_ok (l := r) (p := p) (b := 0) (.inl rfl) R.b (by rw [R.n]; exact hp) (by rw [R.n]; exact hl.2)
            have s1 := set_bit_ok (l := r) (p := p) (b := 1) (.inr rfl) R.b (by rw [R.n]; exact hp) (by rw [R.n]; exact hl.2)
            have al : (acc.map rowD).length + 1 ≤ 16777216 := by rw [List.length_map]; omega
            have al2 : (acc.map rowD ++ [rowD (setB r p 0)]).length + 1 ≤ 16777216 := by rw [List.length_append, List.length_map]; simp only [List.length_cons, List.length_nil]; omega
            have em : (acc ++ [setB r p 0, setB r p 1]).map rowD = acc.map rowD ++ [rowD (setB r p 0)] ++ [rowD (setB r p 1)] := by simp
            refine ⟨[some (.lst (l.map .int)), some (.lst (uD u)), some (.lst (rows.map rowD)), some (.int (p : Int)), some (.lst (acc.map rowD)), some (rowD r)], fun y => y = .nx [some (.lst (l.map .int)), some (.lst (uD u)), some (.lst (rows.map rowD)), some (.int (p : Int)), some (.lst ((acc ++ [setB r p 0, setB r p 1]).map rowD)), some (rowD r)], rfl, ?_, ?_⟩
            · rw [em]
              show ((sSeq (sDo (eMut 4 appD [.val (eCall den_z_law_set_bit [.val (eVar 5), .val (eVar 3), .val (eC (.int 0))] [])]))
    ((sDo (eMut 4 appD [.val (eCall den_z_law_set_bit [.val (eVar 5), .val (eVar 3), .val (eC (.int 1))] [])])))) _) = _
              have al3 : (acc.map rowD).length + 1 + 1 ≤ 16777216 := by rw [List.length_map]; omega
              generalize hA : acc.map rowD = AA at *
              generalize rows.map rowD = SS at *
              unfold rowD at *
              generalize (setB r p 0).map Dt.int = F0 at *
              generalize (setB r p 1).map Dt.int = F1 at *
              generalize r.map Dt.int = RR at *
              generalize l.map Dt.int = LL at *
              generalize uD u = UU at *
              simp? [s0, s1, al, al2, al3]
            · rintro _ rfl
              exact ⟨(_, _), rfl, e3.symm⟩
          · obtain ⟨acc, c⟩ := y
            simp only [List.take_length] at hy
            rw [e, ← hy]
            exact ⟨c, rfl⟩
        · rintro _ ⟨c, rfl⟩
          refine wp_th1 ?_
          refine ⟨some (.lst ((setsL l (u.take (i + 1))).map rowD)), c, ?_⟩
          rfl
      · rintro _ ⟨b, c, rfl⟩
        exact ⟨(_, _, _, _), rfl, rfl⟩
    · obtain ⟨rows, a, b, c⟩ := y
      simp only [List.take_length] at hy
      rw [hy]
      exact ⟨a, b, c, rfl⟩
  · rintro _ ⟨a, b, c, rfl⟩
    refine wp_th1 ?_
    generalize (setsL l u).map rowD = SS at *
    generalize l.map Dt.int = LL at *
    generalize uD u = UU at *
    simp_all? []
    exact wq_rt rfl
/-! ### the places that give the kept numbers; the row of a solution (plain) -/
def xsum (f : Int → Nat) (l : List Int) : Nat := l.foldr (fun p s => f p ^^^ s) 0
theorem xsum_app (f : Int → Nat) : ∀ a b : List Int, xsum f (a ++ b) = xsum f a ^^^ xsum f b
  | [], b => (Nat.zero_xor _).symm
  | x :: r, b => by show f x ^^^ xsum f (r ++ b) = f x ^^^ xsum f r ^^^ xsum f b; rw [xsum_app f r b, Nat.xor_assoc]
theorem xsum_perm {f : Int → Nat} {a b : List Int} (h : a.Perm b) : xsum f a = xsum f b := by
  induction h with
  | nil => rfl
  | cons x _ ih => show f x ^^^ _ = f x ^^^ _; exact congrArg (f x ^^^ ·) ih
  | swap x y l =>
    show f y ^^^ (f x ^^^ xsum f l) = f x ^^^ (f y ^^^ xsum f l)
    rw [← Nat.xor_assoc, ← Nat.xor_assoc, Nat.xor_comm (f y)]
  | trans _ _ h1 h2 => exact h1.trans h2
theorem xsum_split (f : Int → Nat) (q : Int → Bool) : ∀ l : List Int, xsum f l = xsum f (l.filter q) ^^^ xsum f (l.filter fun v => !q v)
  | [] => (Nat.xor_self 0).symm
  | x :: r => by
    have ih := xsum_split f q r
    rw [List.filter_cons, List.filter_cons]
    cases h : q x with
    | true =>
      rw [if_pos rfl, if_neg (show ¬ ((!true) = true) by decide)]
      show f x ^^^ xsum f r = (f x ^^^ xsum f (r.filter q)) ^^^ _
      rw [ih, Nat.xor_assoc]
    | false =>
      rw [if_neg (show ¬ (false = true) by decide), if_pos (show (!false) = true from rfl)]
      show f x ^^^ xsum f r = _ ^^^ (f x ^^^ xsum f (r.filter fun v => !q v))
      rw [ih, ← Nat.xor_assoc, ← Nat.xor_assoc, Nat.xor_comm (f x)]
theorem mix_sum (f : Int → Nat) {a b : List Int} (ha : a.Nodup) (hb : b.Nodup) : xsum f (mixP a b) = xsum f a ^^^ xsum f b := by
  unfold mixP
  rw [xsum_app, xsum_split f (fun v => decide (v ∈ b)) a, xsum_split f (fun v => decide (v ∈ a)) b]
  have hp : (a.filter fun v => decide (v ∈ b)).Perm (b.filter fun v => decide (v ∈ a)) := by
    rw [List.perm_ext_iff_of_nodup (ha.filter _) (hb.filter _)]
    intro v
    simp only [List.mem_filter, decide_eq_true_eq]
    exact And.comm
  rw [xsum_perm (f := f) hp]
  generalize xsum f (b.filter fun v => decide (v ∈ a)) = s
  generalize xsum f (a.filter fun v => !decide (v ∈ b)) = x
  generalize xsum f (b.filter fun v => !decide (v ∈ a)) = y
  rw [Nat.xor_comm s x, Nat.xor_assoc, ← Nat.xor_assoc s s y, Nat.xor_self, Nat.zero_xor]
theorem mix_nd {a b : List Int} (ha : a.Nodup) (hb : b.Nodup) : (mixP a b).Nodup := by
  unfold mixP
  refine List.nodup_append.mpr ⟨ha.filter _, hb.filter _, fun x hx y hy e => ?_⟩
  subst e
  have h1 := (List.mem_filter.mp hx).1
  have h2 := (List.mem_filter.mp hy).2
  simp [h1] at h2
theorem mix_mem {a b : List Int} {v : Int} (h : v ∈ mixP a b) : v ∈ a ∨ v ∈ b := by
  rcases List.mem_append.mp h with h | h
  · exact .inl (List.mem_filter.mp h).1
  · exact .inr (List.mem_filter.mp h).1
def PlI (f : Int → Nat) (S : List Int) (E : Ks) : Prop := ∀ e ∈ E, e.2.1 = xsum f e.2.2 ∧ e.2.2.Nodup ∧ ∀ p ∈ e.2.2, p ∈ S
theorem red3_pl {f : Int → Nat} {S : List Int} : ∀ {E : Ks}, PlI f S E → ∀ {s : Nat × List Int}, s.2.Nodup → (∀ p ∈ s.2, p ∈ S) →
    (red3 E s).1 ^^^ xsum f (red3 E s).2 = s.1 ^^^ xsum f s.2 ∧ (red3 E s).2.Nodup ∧ ∀ p ∈ (red3 E s).2, p ∈ S
  | [], _, s, h1, h2 => ⟨rfl, h1, h2⟩
  | e :: r, P, s, h1, h2 => by
    have Pr : PlI f S r := fun x hx => P x (.tail _ hx)
    obtain ⟨p1, p2, p3⟩ := P e (.head _)
    show (red3 r (stepR s e)).1 ^^^ _ = _ ∧ _
    have key : (stepR s e).1 ^^^ xsum f (stepR s e).2 = s.1 ^^^ xsum f s.2 ∧ (stepR s e).2.Nodup ∧ ∀ p ∈ (stepR s e).2, p ∈ S := by
      unfold stepR
      split
      · refine ⟨?_, mix_nd h1 p2, fun p hp => (mix_mem hp).elim (h2 p) (p3 p)⟩
        show (s.1 ^^^ e.2.1) ^^^ xsum f (mixP s.2 e.2.2) = _
        rw [mix_sum f h1 p2, p1, Nat.xor_assoc, Nat.xor_comm (xsum f s.2), ← Nat.xor_assoc (xsum f e.2.2), Nat.xor_self, Nat.zero_xor]
      · exact ⟨rfl, h1, h2⟩
    obtain ⟨k1, k2, k3⟩ := key
    obtain ⟨r1, r2, r3⟩ := red3_pl Pr (s := stepR s e) k2 k3
    exact ⟨r1.trans k1, r2, r3⟩
theorem step3_pl {f : Int → Nat} {S : List Int} {E : Ks} (P : PlI f S E) {p : Int} (hp : p ∈ S) : PlI f S (step3 E (f p) p) := by
  unfold step3
  split
  · exact P
  · obtain ⟨r1, r2, r3⟩ := red3_pl P (s := (f p, [p])) (List.pairwise_singleton ..) (fun q hq => by rw [List.mem_singleton.mp hq]; exact hp)
    intro e he
    rcases List.mem_cons.mp ((ins3_perm _ _).mem_iff.mp he) with rfl | h
    · refine ⟨?_, r2, r3⟩
      have r1 : _ = f p ^^^ (f p ^^^ 0) := r1
      rw [Nat.xor_zero, Nat.xor_self] at r1
      exact xor0 r1
    · exact P e h
theorem kept3_pl (g : Nat → Nat) : ∀ (n : Nat) (u : List Nat), u.length = n → PlI (fun p => g p.toNat) (u.map fun p : Nat => (p : Int)) (kept3 g u) := by
  intro n
  induction n with
  | zero => intro u hu; rw [List.length_eq_zero_iff.mp hu]; exact fun _ h => nomatch h
  | succ n ih =>
    intro u hu
    obtain ⟨v, p, rfl⟩ : ∃ v p, u = v ++ [p] := ⟨u.dropLast, u.getLast (fun e => by rw [e] at hu; cases hu), (List.dropLast_concat_getLast _).symm⟩
    have hv : v.length = n := by rw [List.length_append] at hu; simpa using hu
    rw [kept3_snoc]
    have h1 : PlI (fun p => g p.toNat) ((v ++ [p]).map fun p : Nat => (p : Int)) (kept3 g v) := fun e he => by
      obtain ⟨a, b, c⟩ := ih v hv e he
      exact ⟨a, b, fun q hq => by rw [List.map_append]; exact List.mem_append.mpr (.inl (c q hq))⟩
    exact step3_pl h1 (p := (p : Int)) (List.mem_map.mpr ⟨p, List.mem_append.mpr (.inr (List.mem_singleton.mpr rfl)), rfl⟩)
/-! rows -/
theorem byte_of_bits7 : ∀ v : Fin 256, (v.val : Int) = ((List.range 8).map fun k => (v.val : Int) / 2 ^ (7 - k) % 2 * 2 ^ (7 - k)).sum := by decide +kernel
theorem row_ext {a b : List Int} (hn : a.length = b.length) (ha : ∀ v ∈ a, 0 ≤ v ∧ v < 256) (hb : ∀ v ∈ b, 0 ≤ v ∧ v < 256) (h : ∀ q, q < 8 * a.length → bitA a q = bitA b q) : a = b := by
  refine List.ext_getElem hn fun i h1 h2 => ?_
  obtain ⟨a0, a1⟩ := ha _ (List.getElem_mem h1)
  obtain ⟨b0, b1⟩ := hb _ (List.getElem_mem h2)
  have hk : ∀ k, k < 8 → a[i] / 2 ^ (7 - k) % 2 = b[i] / 2 ^ (7 - k) % 2 := fun k hk => by
    have := h (8 * i + k) (by omega)
    unfold bitA at this
    rw [show (8 * i + k) / 8 = i by omega, show (8 * i + k) % 8 = k by omega, nI_nat h1, nI_nat h2] at this
    exact this
  generalize a[i] = x at *
  generalize b[i] = y at *
  obtain ⟨m, rfl⟩ : ∃ m : Nat, x = m := ⟨x.toNat, by omega⟩
  obtain ⟨n, rfl⟩ : ∃ n : Nat, y = n := ⟨y.toNat, by omega⟩
  have e1 := byte_of_bits7 ⟨m, by omega⟩
  have e2 := byte_of_bits7 ⟨n, by omega⟩
  simp only [] at e1 e2
  rw [e1, e2]
  congr 1
  refine List.map_congr_left fun k hk2 => ?_
  rw [hk k (List.mem_range.mp hk2)]
theorem setB_self {l : List Int} {p : Nat} {b : Int} (hb : b = 0 ∨ b = 1) (hl : ∀ v ∈ l, 0 ≤ v ∧ v < 256) (hp : p < 8 * l.length) : bitA (setB l p b) p = b := by
  unfold setB
  split
  · assumption
  · rename_i h
    rw [bit_flip hl hp hp, if_pos rfl]
    have := bitA01 l p
    rcases hb with rfl | rfl <;> omega
theorem row_in {l : List Int} (hl : ∀ v ∈ l, 0 ≤ v ∧ v < 256) : ∀ (n : Nat) (u : List Nat), u.length = n → (∀ p ∈ u, p < 8 * l.length) → u.Nodup → ∀ r, RowU l u r → r ∈ setsL l u := by
  intro n
  induction n with
  | zero =>
    intro u hn hu _ r R
    have : u = [] := List.length_eq_zero_iff.mp hn
    subst this
    exact List.mem_singleton.mpr (row_ext R.n R.b hl fun q hq => R.q q (by rw [← R.n]; exact hq) (by simp))
  | succ n ih =>
    intro u hn hu nd r R
    obtain ⟨v, p, rfl⟩ : ∃ v p, u = v ++ [p] := ⟨u.dropLast, u.getLast (fun e => by rw [e] at hn; cases hn), (List.dropLast_concat_getLast _).symm⟩
    have hv : v.length = n := by rw [List.length_append] at hn; simpa using hn
    have nd2 := List.nodup_append.mp nd
    have hpv : p ∉ v := fun h => nd2.2.2 p h p (List.mem_singleton.mpr rfl) rfl
    have hp := hu p (List.mem_append.mpr (.inr (List.mem_singleton.mpr rfl)))
    have hpr : p < 8 * r.length := by rw [R.n]; exact hp
    have R0 : RowU l v (setB r p (bitA l p)) := ⟨setB_len.trans R.n, setB_byte R.b hpr, fun q hq h => by
      by_cases e : q = p
      · subst e; exact setB_self (bitA01 l q) R.b hpr
      · rw [setB_other R.b hpr (by rw [R.n]; exact hq) e]
        exact R.q q hq fun z => by
          rcases List.mem_append.mp z with z | z
          · exact h z
          · exact e (List.mem_singleton.mp z)⟩
    have m0 := ih v hv (fun q hq => hu q (List.mem_append.mpr (.inl hq))) nd2.1 _ R0
    have er : setB (setB r p (bitA l p)) p (bitA r p) = r := by
      have hb0 := setB_byte (b := bitA l p) R.b hpr
      have hp0 : p < 8 * (setB r p (bitA l p)).length := by rw [setB_len]; exact hpr
      refine row_ext (by rw [setB_len, setB_len]) (setB_byte hb0 hp0) R.b fun q hq => ?_
      rw [setB_len, setB_len] at hq
      by_cases e : q = p
      · subst e; exact setB_self (bitA01 r q) hb0 hp0
      · rw [setB_other hb0 hp0 (by rw [setB_len]; exact hq) e, setB_other R.b hpr hq e]
    rw [sets_snoc]
    refine List.mem_flatMap.mpr ⟨_, m0, ?_⟩
    rcases bitA01 r p with z | z
    · rw [z] at er; rw [er]; exact .head _
    · rw [z] at er; rw [er]; exact .tail _ (.head _)
theorem plain_bit {l : List Int} (hl : ∀ v ∈ l, 0 ≤ v ∧ v < 256) : ∀ (n : Nat) (u : List Nat), u.length = n → (∀ p ∈ u, p < 8 * l.length) → ∀ q ∈ u, bitA (plainL l u) q = 0 := by
  intro n
  induction n with
  | zero => intro u hn _ q hq; rw [List.length_eq_zero_iff.mp hn] at hq; cases hq
  | succ n ih =>
    intro u hn hu q hq
    obtain ⟨v, p, rfl⟩ : ∃ v p, u = v ++ [p] := ⟨u.dropLast, u.getLast (fun e => by rw [e] at hn; cases hn), (List.dropLast_concat_getLast _).symm⟩
    have hv : v.length = n := by rw [List.length_append] at hn; simpa using hn
    have hvu : ∀ q ∈ v, q < 8 * l.length := fun q hq => hu q (List.mem_append.mpr (.inl hq))
    have hp := hu p (List.mem_append.mpr (.inr (List.mem_singleton.mpr rfl)))
    have R := (sets_rows hl n v hv hvu).2
    rw [plain_snoc]
    by_cases e : q = p
    · subst e; exact setB_self (.inl rfl) R.b (by rw [R.n]; exact hp)
    · rw [setB_other R.b (by rw [R.n]; exact hp) (by rw [R.n]; exact hu q hq) e]
      refine ih v hv hvu q ?_
      rcases List.mem_append.mp hq with h | h
      · exact h
      · exact absurd (List.mem_singleton.mp h) e
def onesL (r : List Int) (ps : List Int) : List Int := ps.foldl (fun r p => setB r p.toNat 1) r
theorem ones_row {l : List Int} {u : List Nat} (hu : ∀ p ∈ u, p < 8 * l.length) : ∀ (ps : List Int) (r : List Int), RowU l u r → (∀ p ∈ ps, p ∈ u.map fun p : Nat => (p : Int)) → ps.Nodup → (∀ p ∈ ps, bitA r p.toNat = 0) →
    RowU l u (onesL r ps) ∧ crcN (onesL r ps) = crcN r ^^^ xsum (fun p => chN l.length p.toNat) ps
  | [], r, R, _, _, _ => ⟨R, (Nat.xor_zero _).symm⟩
  | p :: ps, r, R, hp, nd, hz => by
    obtain ⟨k, hk, rfl⟩ := List.mem_map.mp (hp p (.head _))
    have kb := hu k hk
    have kr : k < 8 * r.length := by rw [R.n]; exact kb
    have R1 : RowU l u (setB r k 1) := ⟨setB_len.trans R.n, setB_byte R.b kr, fun q hq h => by
      rw [setB_other R.b kr (by rw [R.n]; exact hq) (fun e => h (by rw [e]; exact hk))]
      exact R.q q hq h⟩
    have nd2 := List.nodup_cons.mp nd
    have z0 := hz _ (.head _)
    rw [Int.toNat_natCast] at z0
    obtain ⟨a, b⟩ := ones_row hu ps (setB r k 1) R1 (fun p h => hp p (.tail _ h)) nd2.2 fun p h => by
      obtain ⟨j, hj, rfl⟩ := List.mem_map.mp (hp p (.tail _ h))
      rw [Int.toNat_natCast, setB_other R.b kr (by rw [R.n]; exact hu j hj) (fun e => nd2.1 (by rw [← e]; exact h))]
      have := hz _ (.tail _ h)
      rwa [Int.toNat_natCast] at this
    have cs := setB_crc (b := 1) R.b kr
    rw [z0, if_neg (by decide), R.n] at cs
    refine ⟨a, ?_⟩
    show crcN (onesL (setB r k 1) ps) = crcN r ^^^ (chN l.length (k : Int).toNat ^^^ xsum _ ps)
    rw [b, cs, Int.toNat_natCast, Nat.xor_assoc]
/-! ### the solution by the program; unknown places that are refused -/
def oneD : List (List Int) → Dt
  | [r] => .lst (r.map .int)
  | _ => .non
theorem one_ne {F : List (List Int)} (h : F.length ≠ 1) : oneD F = .non := by
  match F, h with
  | [], _ => rfl
  | [r], h => exact absurd rfl h
  | _ :: _ :: _, _ => rfl
def solD (l : List Int) (u : List Nat) (w : Nat) : Dt := oneD ((setsL l u).filter fun r => decide (crcN r = w))
theorem cnt_filter (rows : List (List Int)) (w : Nat) : (rows.filter fun r => decide (crcN r = w)).length = cntC rows w := List.countP_eq_length_filter.symm
theorem solution_ok {l : List Int} {u : List Nat} (hl : okB l) (U : okU l u) {w : Nat} (hw : w < 65536) :
    den_solution [.lst (l.map .int), .lst (uD u), .int (w : Int)] = .ok (solD l u w) [] := by
  have key : Wq (den_solution [.lst (l.map .int), .lst (uD u), .int (w : Int)]) (fun q => q = .ok (solD l u w) []) := ?_
  · exact key
  refine wq_run rfl ?_
  unfold body_solution
  have nd : u.Nodup := U.s.imp fun h => Nat.ne_of_lt h
  have sc := solution_count_ok hl U hw
  have cw := cnt_ways hl.1 _ u rfl U.b nd w
  rw [← cw, ← cnt_filter] at sc
  have wy := ways_ok (u.map (chN l.length)) (crcN (plainL l u) ^^^ w)
  rw [← cw, ← cnt_filter] at wy
  have rin : ∀ r, RowU l u r → crcN r = w → r ∈ (setsL l u).filter fun r => decide (crcN r = w) := fun r R hc => List.mem_filter.mpr ⟨row_in hl.1 _ u rfl U.b nd r R, decide_eq_true hc⟩
  unfold solD
  generalize (setsL l u).filter (fun r => decide (crcN r = w)) = F at *
  by_cases h1 : F.length = 1
  · obtain ⟨r, rfl⟩ := List.length_eq_one_iff.mp h1
    show Wp _ fun z => Wq (endF _ z) fun q => q = .ok (.lst (r.map .int)) []
    rw [h1] at sc wy
    have r0 : redN (keptN (u.map (chN l.length))) (crcN (plainL l u) ^^^ w) = 0 := by
      by_cases h : redN (keptN (u.map (chN l.length))) (crcN (plainL l u) ^^^ w) = 0
      · exact h
      · rw [if_neg h] at wy; cases wy
    obtain ⟨D, E, so, I, hk, hE⟩ := span_of_ok hl U.b (by have := U.n; omega)
    have co := crc_ok (plainL l u)
    have xo := exclusive_ok (crcM (plainL l u)) (w : Int)
    rw [crc_N, Bits.bitXor_pp (Int.natCast_nonneg _) (Int.natCast_nonneg _)] at xo
    have xo : den_exclusive [.int ((crcN (plainL l u) : Nat) : Int), .int (w : Int)] = .ok (.int ((crcN (plainL l u) ^^^ w : Nat) : Int)) [] := xo
    rw [crc_N] at co
    have ro := reduced_ok I (crcN (plainL l u) ^^^ w) (ps := []) (Nat.zero_le _)
    have r1 := red3_1 E (crcN (plainL l u) ^^^ w, [])
    rw [hk] at r1
    have r1 : (red3 E (crcN (plainL l u) ^^^ w, [])).1 = 0 := r1.trans r0
    have P := kept3_pl (chN l.length) _ u rfl
    rw [← hE] at P
    obtain ⟨p1, p2, p3⟩ := red3_pl P (s := (crcN (plainL l u) ^^^ w, [])) List.nodup_nil (fun _ h => nomatch h)
    rw [r1] at p1
    have p1 : 0 ^^^ xsum (fun p => chN l.length p.toNat) (red3 E (crcN (plainL l u) ^^^ w, [])).2 = (crcN (plainL l u) ^^^ w) ^^^ 0 := p1
    rw [Nat.zero_xor, Nat.xor_zero] at p1
    have ro : den_Span_reduced [spanD D, .int ((crcN (plainL l u) ^^^ w : Nat) : Int), .lst []] = .ok (.tup [.int ((red3 E (crcN (plainL l u) ^^^ w, [])).1 : Int), .lst ((red3 E (crcN (plainL l u) ^^^ w, [])).2.map .int)]) [] := ro
    rw [r1] at ro
    have pn : (red3 E (crcN (plainL l u) ^^^ w, [])).2.length ≤ 100000 := by
      have h1 := red3_len E (crcN (plainL l u) ^^^ w, [])
      have h2 := I.tot
      have h1 : _ ≤ 0 + totP E := h1
      omega
    generalize (red3 E (crcN (plainL l u) ^^^ w, [])).2 = ps at *
    have RP := (sets_rows hl.1 _ u rfl U.b).2
    have pz := plain_bit hl.1 _ u rfl U.b
    have hz : ∀ p ∈ ps, bitA (plainL l u) p.toNat = 0 := fun p hp => by
      obtain ⟨k, hk, rfl⟩ := List.mem_map.mp (p3 p hp)
      exact pz k hk
    have rowk : ∀ i, RowU l u (onesL (plainL l u) (ps.take i)) := fun i => (ones_row U.b (ps.take i) (plainL l u) RP (fun p h => p3 p (List.mem_of_mem_take h)) (p2.sublist (List.take_sublist ..)) fun p h => hz p (List.mem_of_mem_take h)).1
    obtain ⟨rr, cr⟩ := ones_row U.b ps (plainL l u) RP p3 p2 hz
    rw [p1, ← Nat.xor_assoc, Nat.xor_self, Nat.zero_xor] at cr
    have er := List.mem_singleton.mp (rin _ rr cr)
    generalize crcN (plainL l u) ^^^ w = t at *
    have m1 : isC "Span" "reduced" (spanD D) = true := rfl
    refine wp_eq (ρ' := [some (.lst (l.map .int)), some (.lst (uD u)), some (.int (w : Int)), none, none, none, none, none]) ?_ ?_
    · generalize l.map Dt.int = LL at *
      generalize uD u = UU at *
      have sc : den_solution_count [.lst LL, .lst UU, .int (w : Int)] = .ok (.int 1) [] := sc
      simp? [sc, sg_solution]
    refine wp_eq (ρ' := [some (.lst (l.map .int)), some (.lst (uD u)), some (.int (w : Int)), some (.lst ((plainL l u).map .int)), some (spanD D), none, none, none]) ?_ ?_
    · generalize (plainL l u).map Dt.int = PL at *
      generalize l.map Dt.int = LL at *
      generalize uD u = UU at *
      generalize spanD D = SD at *
      simp? [so]
    refine wp_eq (ρ' := [some (.lst (l.map .int)), some (.lst (uD u)), some (.int (w : Int)), some (.lst ((onesL (plainL l u) []).map .int)), some (spanD D), some (.int (0 : Int)), some (.lst (ps.map .int)), none]) ?_ ?_
    · show _ = Sr.nx [some (.lst (l.map .int)), some (.lst (uD u)), some (.int (w : Int)), some (.lst ((plainL l u).map .int)), some (spanD D), some (.int (0 : Int)), some (.lst (ps.map .int)), none]
      clear er cr rr rowk hz pz RP p1 p3 P so
      generalize ((crcN (plainL l u) : Nat) : Int) = cp at *
      generalize (plainL l u).map Dt.int = PL at *
      generalize l.map Dt.int = LL at *
      generalize uD u = UU at *
      generalize spanD D = SD at *
      generalize ps.map Dt.int = PP at *
      have ro : den_Span_reduced [SD, .int (t : Int), .lst []] = .ok (.tup [.int 0, .lst PP]) [] := ro
      simp? [co, xo, ro, m1]
    refine wp_st (R := fun z => ∃ a, z = .nx [some (.lst (l.map .int)), some (.lst (uD u)), some (.int (w : Int)), some (.lst ((onesL (plainL l u) ps).map .int)), some (spanD D), some (.int (0 : Int)), some (.lst (ps.map .int)), a]) ?_ ?_
    · have pl : (ps.map Dt.int).length ≤ 16777216 := by rw [List.length_map]; omega
      have ei : (iSeqD (eVar 6)) [some (.lst (l.map .int)), some (.lst (uD u)), some (.int (w : Int)), some (.lst ((onesL (plainL l u) []).map .int)), some (spanD D), some (.int (0 : Int)), some (.lst (ps.map .int)), none] = .ok (ps.map .int) [some (.lst (l.map .int)), some (.lst (uD u)), some (.int (w : Int)), some (.lst ((onesL (plainL l u) []).map .int)), some (spanD D), some (.int (0 : Int)), some (.lst (ps.map .int)), none] := by
        generalize (onesL (plainL l u) []).map Dt.int = PL at *
        generalize l.map Dt.int = LL at *
        generalize uD u = UU at *
        generalize spanD D = SD at *
        generalize ps.map Dt.int = PP at *
        simp? [pl]
      rw [w_for, ei, w_go1]
      refine wp_ix2 (fun y : List Int × Option Dt => [some (.lst (l.map .int)), some (.lst (uD u)), some (.int (w : Int)), some (.lst (y.1.map .int)), some (spanD D), some (.int (0 : Int)), some (.lst (ps.map .int)), y.2]) (fun i y => y.1 = onesL (plainL l u) (ps.take i)) (onesL (plainL l u) [], none) rfl rfl (fun i y hi hy => ?_) fun y hy => ?_
      · obtain ⟨row, a⟩ := y
        simp only [] at hy
        have Rk := rowk i
        rw [← hy] at Rk
        have tk : onesL (plainL l u) (ps.take (i + 1)) = setB row (ps[i]).toNat 1 := by rw [List.take_succ_eq_append_getElem hi]; unfold onesL at hy ⊢; rw [List.foldl_append, hy]; rfl
        obtain ⟨k, hk2, ek⟩ := List.mem_map.mp (p3 _ (List.getElem_mem hi))
        rw [← ek, Int.toNat_natCast] at tk
        have wb := with_bit_set (l := row) (p := k) (b := 1) (.inr rfl) Rk.b (by rw [Rk.n]; exact U.b k hk2) (by rw [Rk.n]; exact hl.2)
        refine ⟨[some (.lst (l.map .int)), some (.lst (uD u)), some (.int (w : Int)), some (.lst (row.map .int)), some (spanD D), some (.int (0 : Int)), some (.lst (ps.map .int)), some (.int (k : Int))], fun z => z = .nx [some (.lst (l.map .int)), some (.lst (uD u)), some (.int (w : Int)), some (.lst ((setB row k 1).map .int)), some (spanD D), some (.int (0 : Int)), some (.lst (ps.map .int)), some (.int (k : Int))], by rw [← ek]; rfl, ?_, ?_⟩
        · show ((sSet 3 (eCall den_with_bit [.val (eVar 3), .val (eVar 7), .val (eC (.int 1))] [])) _) = _
          generalize (setB row k 1).map Dt.int = SB at *
          generalize row.map Dt.int = PL at *
          generalize l.map Dt.int = LL at *
          generalize uD u = UU at *
          generalize spanD D = SD at *
          generalize ps.map Dt.int = PP at *
          simp? [wb]
        · rintro _ rfl
          exact ⟨(setB row k 1, some (.int (k : Int))), rfl, tk.symm⟩
      · obtain ⟨row, a⟩ := y
        simp only [List.take_length] at hy
        subst hy
        exact ⟨a, rfl⟩
    · rintro _ ⟨a, rfl⟩
      refine wp_th1 ?_
      rw [er]
      generalize r.map Dt.int = PL at *
      generalize l.map Dt.int = LL at *
      generalize uD u = UU at *
      generalize spanD D = SD at *
      generalize ps.map Dt.int = PP at *
      simp_all? []
      exact wq_rt rfl
  · rw [one_ne h1]
    have h1i : ¬ (F.length : Int) = 1 := by omega
    generalize F.length = n at *
    generalize l.map Dt.int = LL at *
    generalize uD u = UU at *
    simp_all? [sc, h1, h1i, sg_solution]
    exact wq_rt rfl
/-! refused places -/
def inU (n : Nat) (b : List Int) : Bool := b.all fun p => decide ((0 : Int) ≤ p ∧ p < 8 * (n : Int))
def ascU (b : List Int) : Bool := (List.range (b.length - 1)).all fun j => decide (b.getD j 0 < b.getD (j + 1) 0)
def badU (n : Nat) (b : List Int) : Prop := 24 < b.length ∨ inU n b = false ∨ ascU b = false
theorem demand_bad {l b : List Int} (hb : b.length ≤ 100) (h : badU l.length b) : den_demand_unknown [.lst (l.map .int), .lst (b.map .int)] = .ex ⟨"InvalidUnknowns", []⟩ [] := by
  have key : Wq (den_demand_unknown [.lst (l.map .int), .lst (b.map .int)]) (fun q => q = .ex ⟨"InvalidUnknowns", []⟩ []) := ?_
  · exact key
  refine wq_run rfl ?_
  unfold body_demand_unknown
  have ll : (l.map Dt.int).length = l.length := List.length_map ..
  have ul : (b.map Dt.int).length = b.length := List.length_map ..
  have ul2 : (b.map Dt.int).length ≤ 16777216 := by omega
  by_cases h24 : 24 < b.length
  · have u24 : (24 : Int) < (b.length : Int) := by omega
    generalize b.map Dt.int = UU at *
    generalize l.map Dt.int = LL at *
    simp_all? [sg_demand_unknown, ul, u24, h24]
    exact wq_ex rfl
  have u24 : ¬ (24 : Int) < (b.length : Int) := by omega
  have c1 : compL [2] (gVar 2) cYes (eChain leD ltD (eC (.int 0)) (eVar 2) (eOp mulD [.val (eC (.int 8)), .val (eOp lenD [.val (eVar 0)])])) (b.map .int) [some (.lst (l.map .int)), some (.lst (b.map .int)), none, none] = .ok (b.map fun p : Int => .bl (decide ((0 : Int) ≤ p ∧ p < 8 * (l.length : Int)))) [some (.lst (l.map .int)), some (.lst (b.map .int)), none, none] :=
    comp_mapC Dt.int (fun p : Int => .bl (decide ((0 : Int) ≤ p ∧ p < 8 * (l.length : Int)))) (by simp) b fun p _ => chain_lt rfl rfl (by
      generalize l.map Dt.int = LL at *
      generalize b.map Dt.int = UU at *
      simp? [ll])
  have b1 := x_allM (f := fun p : Int => decide ((0 : Int) ≤ p ∧ p < 8 * (l.length : Int))) (l := b)
  rw [show b.all (fun p : Int => decide ((0 : Int) ≤ p ∧ p < 8 * (l.length : Int))) = inU l.length b from rfl] at b1
  by_cases hi : inU l.length b = false
  · rw [hi] at b1
    generalize b.map (fun p : Int => Dt.bl (decide ((0 : Int) ≤ p ∧ p < 8 * (l.length : Int)))) = L1 at *
    generalize b.map Dt.int = UU at *
    generalize l.map Dt.int = LL at *
    simp_all? [sg_demand_unknown, ul, ul2, u24, h24, c1, b1]
    exact wq_ex rfl
  have hi : inU l.length b = true := by simpa using hi
  have ha : ascU b = false := by
    rcases h with h | h | h
    · exact absurd h h24
    · rw [hi] at h; cases h
    · exact h
  rw [hi] at b1
  have gt : ∀ j : Nat, j < b.length → atI (b.map Dt.int) (j : Int) = some (.int (b.getD j 0)) := fun j hj => atI_nat (by rw [List.getElem?_map, List.getElem?_eq_getElem hj, List.getD_eq_getElem?_getD, List.getElem?_eq_getElem hj]; rfl)
  have bp : 1 ≤ b.length := by
    rcases Nat.eq_zero_or_pos b.length with z | z
    · rw [List.length_eq_zero_iff.mp z] at ha; cases ha
    · exact z
  have w2 : rng2D [.int 1, .int (b.length : Int)] = some ((List.range (b.length - 1)).map fun j : Nat => Dt.int ((j : Int) + 1)) := by
    rw [w_rg2 ⟨by omega, by omega, by omega, by omega⟩, rngL_map, List.map_map, show ((b.length : Int) - 1).toNat = b.length - 1 by omega]
    congr 1; apply List.map_congr_left; intro j _; simp [Int.add_comm]
  have c2 : compL [3] (gVar 3) cYes (eOp ltD [.val (eOp ixD [.val (eVar 1), .val (eOp subD [.val (eVar 3), .val (eC (.int 1))])]), .val (eOp ixD [.val (eVar 1), .val (eVar 3)])]) ((List.range (b.length - 1)).map fun j : Nat => Dt.int ((j : Int) + 1)) [some (.lst (l.map .int)), some (.lst (b.map .int)), none, none] = .ok ((List.range (b.length - 1)).map fun j : Nat => .bl (decide (b.getD j 0 < b.getD (j + 1) 0))) [some (.lst (l.map .int)), some (.lst (b.map .int)), none, none] :=
    comp_mapC (fun j : Nat => Dt.int ((j : Int) + 1)) (fun j : Nat => .bl (decide (b.getD j 0 < b.getD (j + 1) 0))) (by simp) _ fun j hj => by
      have hj := List.mem_range.mp hj
      have t1 := gt j (by omega)
      have t2 := gt (j + 1) (by omega)
      have s1 : ((j : Int) + 1 - 1) = (j : Int) := by omega
      rw [show ((j + 1 : Nat) : Int) = (j : Int) + 1 by omega] at t2
      generalize b.map Dt.int = UU at *
      generalize l.map Dt.int = LL at *
      generalize b.getD j 0 = v0 at *
      generalize b.getD (j + 1) 0 = v1 at *
      simp? [t1, t2, s1]
  have b2 := x_allM (f := fun j : Nat => decide (b.getD j 0 < b.getD (j + 1) 0)) (l := List.range (b.length - 1))
  rw [show (List.range (b.length - 1)).all (fun j : Nat => decide (b.getD j 0 < b.getD (j + 1) 0)) = ascU b from rfl, ha] at b2
  have l3 : ((List.range (b.length - 1)).map (fun j : Nat => Dt.int ((j : Int) + 1))).length ≤ 16777216 := by simp; omega
  generalize b.map (fun p : Int => Dt.bl (decide ((0 : Int) ≤ p ∧ p < 8 * (l.length : Int)))) = L1 at *
  generalize (List.range (b.length - 1)).map (fun j : Nat => Dt.bl (decide (b.getD j 0 < b.getD (j + 1) 0))) = L2 at *
  generalize (List.range (b.length - 1)).map (fun j : Nat => Dt.int ((j : Int) + 1)) = L3 at *
  generalize b.map Dt.int = UU at *
  generalize l.map Dt.int = LL at *
  simp_all? [sg_demand_unknown, ul, ul2, u24, h24, c1, b1, w2, c2, b2, l3, -w_rg2]
  exact wq_ex rfl
theorem count_bad {l b : List Int} (hb : b.length ≤ 100) (h : badU l.length b) (w : Int) : den_solution_count [.lst (l.map .int), .lst (b.map .int), .int w] = .ex ⟨"InvalidUnknowns", []⟩ [] := by
  have key : Wq (den_solution_count [.lst (l.map .int), .lst (b.map .int), .int w]) (fun q => q = .ex ⟨"InvalidUnknowns", []⟩ []) := ?_
  · exact key
  refine wq_run rfl ?_
  unfold body_solution_count
  have db := demand_bad hb h
  generalize b.map Dt.int = UU at *
  generalize l.map Dt.int = LL at *
  simp_all? [sg_solution_count, db]
  exact wq_ex rfl
theorem solution_bad {l b : List Int} (hb : b.length ≤ 100) (h : badU l.length b) (w : Int) : den_solution [.lst (l.map .int), .lst (b.map .int), .int w] = .ex ⟨"InvalidUnknowns", []⟩ [] := by
  have key : Wq (den_solution [.lst (l.map .int), .lst (b.map .int), .int w]) (fun q => q = .ex ⟨"InvalidUnknowns", []⟩ []) := ?_
  · exact key
  refine wq_run rfl ?_
  unfold body_solution
  have db := count_bad hb h w
  generalize b.map Dt.int = UU at *
  generalize l.map Dt.int = LL at *
  simp_all? [sg_solution, db]
  exact wq_ex rfl
/-! ### law k57 -/
abbrev E57 (ns : List Int) (p : Pool) (l : List Int) (a3 a4 a5 a6 a7 a8 a9 a10 a11 a12 : Option Dt) : Env := [some (.rol (ns.map .int)), some (pD p), some (.lst (l.map .int)), a3, a4, a5, a6, a7, a8, a9, a10, a11, a12, none, none]
theorem s57_wanted (ns : List Int) (p : Pool) (l : List Int) (a3 : Option Dt) :
    ∃ (w : Nat) (p' : Pool), w < 65536 ∧ (sSet 4 (eOp ixD [.val (eOp lstD [.val (eCall den_z_law_check [.val (eVar 2)] []), .val (eCall den_z_law_draw [.own 1, .val (eC (.int 65536))] [])]), .val (eOp divD [.val (eCall den_z_law_draw [.own 1, .val (eC (.int 5))] []), .val (eC (.int 4))])])) (E57 ns p l a3 none none none none none none none none none) = .nx (E57 ns p' l a3 (some (.int (w : Int))) none none none none none none none none) := by
  obtain ⟨b, p2, d2, b0, b1⟩ := draw_ok p (m := 65536) (by decide) (by decide)
  obtain ⟨c, p3, d3, c0, c1⟩ := draw_ok p2 (m := 5) (by decide) (by decide)
  have ck := law_check_ok l
  rw [crc_N] at ck
  have lt := crcN_lt l
  obtain ⟨b, rfl, hb⟩ : ∃ k : Nat, b = (k : Int) ∧ k < 65536 := ⟨b.toNat, by omega, by omega⟩
  generalize crcN l = x at *
  have g2 : ∃ w : Nat, w < 65536 ∧ atI [Dt.int (x : Int), Dt.int (b : Int)] (c / 4) = some (.int (w : Int)) := by
    have : c / 4 = 0 ∨ c / 4 = 1 := by omega
    rcases this with h | h
    · rw [h]; exact ⟨x, lt, rfl⟩
    · rw [h]; exact ⟨b, hb, rfl⟩
  obtain ⟨w, hw, g2⟩ := g2
  refine ⟨w, p3, hw, ?_⟩
  unfold E57
  generalize l.map Dt.int = LL at *
  generalize ns.map Dt.int = NN at *
  generalize pD p = PP at *
  generalize pD p2 = PP2 at *
  generalize pD p3 = PP3 at *
  simp? [d2, d3, ck, g2, -w_atI]
theorem s57_loop (ns : List Int) (p : Pool) {l : List Int} (hl : okB l) {u : List Nat} (un : u.length ≤ 6) (hu : ∀ q ∈ u, q < 8 * l.length) (a4 : Option Dt) :
    ∃ (s : List Int) (p' : Pool) (a6 : Option Dt), okB s ∧ s.length = l.length ∧ (sFor (iSeqD (eVar 3)) (gVar 6)
    (sSet 5 (eCall den_z_law_set_bit [.val (eVar 5), .val (eVar 6), .val (eCall den_z_law_draw [.own 1, .val (eC (.int 2))] [])] []))) (E57 ns p l (some (.lst (uD u))) a4 (some (.lst (l.map .int))) none none none none none none none) = .nx (E57 ns p' l (some (.lst (uD u))) a4 (some (.lst (s.map .int))) a6 none none none none none none) := by
  have key : Wp ((sFor (iSeqD (eVar 3)) (gVar 6)
    (sSet 5 (eCall den_z_law_set_bit [.val (eVar 5), .val (eVar 6), .val (eCall den_z_law_draw [.own 1, .val (eC (.int 2))] [])] []))) (E57 ns p l (some (.lst (uD u))) a4 (some (.lst (l.map .int))) none none none none none none none)) fun z => ∃ (s : List Int) (p' : Pool) (a6 : Option Dt), okB s ∧ s.length = l.length ∧ z = .nx (E57 ns p' l (some (.lst (uD u))) a4 (some (.lst (s.map .int))) a6 none none none none none none) := ?_
  · exact key
  have ul : (uD u).length ≤ 16777216 := by rw [List.length_map]; omega
  have ei : (iSeqD (eVar 3)) (E57 ns p l (some (.lst (uD u))) a4 (some (.lst (l.map .int))) none none none none none none none) = .ok (uD u) (E57 ns p l (some (.lst (uD u))) a4 (some (.lst (l.map .int))) none none none none none none none) := by
    unfold E57
    generalize l.map Dt.int = LL at *
    generalize uD u = UU at *
    generalize ns.map Dt.int = NN at *
    generalize pD p = PP at *
    simp? [ul]
  rw [w_for, ei, w_go1]
  refine wp_ix2 (fun y : List Int × Pool × Option Dt => E57 ns y.2.1 l (some (.lst (uD u))) a4 (some (.lst (y.1.map .int))) y.2.2 none none none none none none) (fun i y => okB y.1 ∧ y.1.length = l.length) (l, p, none) rfl ⟨hl, rfl⟩ (fun i y hi hy => ?_) fun y hy => ?_
  · obtain ⟨s, q, a⟩ := y
    obtain ⟨h1, h2⟩ := hy
    simp only [] at h1 h2
    obtain ⟨b, q2, d2, b0, b1⟩ := draw_ok q (m := 2) (by decide) (by decide)
    have hb : b = 0 ∨ b = 1 := by omega
    have hp := hu _ (List.getElem_mem hi)
    generalize u[i] = k at *
    have sb := set_bit_ok hb h1.1 (p := k) (by rw [h2]; exact hp) h1.2
    refine ⟨E57 ns q l (some (.lst (uD u))) a4 (some (.lst (s.map .int))) (some (.int (k : Int))) none none none none none none, fun z => z = .nx (E57 ns q2 l (some (.lst (uD u))) a4 (some (.lst ((setB s k b).map .int))) (some (.int (k : Int))) none none none none none none), rfl, ?_, ?_⟩
    · show ((sSet 5 (eCall den_z_law_set_bit [.val (eVar 5), .val (eVar 6), .val (eCall den_z_law_draw [.own 1, .val (eC (.int 2))] [])] [])) _) = _
      unfold E57
      generalize (setB s k b).map Dt.int = SB at *
      generalize s.map Dt.int = SS at *
      generalize l.map Dt.int = LL at *
      generalize uD u = UU at *
      generalize ns.map Dt.int = NN at *
      generalize pD q = PP at *
      generalize pD q2 = PP2 at *
      simp? [d2, sb]
    · rintro _ rfl
      exact ⟨(setB s k b, q2, _), rfl, ⟨setB_byte h1.1 (by rw [h2]; exact hp), by rw [setB_len]; exact h1.2⟩, by rw [setB_len]; exact h2⟩
  · obtain ⟨s, q, a⟩ := y
    exact ⟨s, q, a, hy.1, hy.2, rfl⟩
theorem s57_ways (ns : List Int) (p : Pool) (l : List Int) {s : List Int} (hs : okB s) {u : List Nat} (un : u.length ≤ 6) (hu : ∀ q ∈ u, q < 8 * s.length) (w : Nat) (a6 a7 : Option Dt) :
    (sSet 8 (eComp (iSeqD (eCall den_z_law_settings [.val (eVar 5), .val (eVar 3)] [])) [14] (gVar 14) (cOf (eOp eqD [.val (eCall den_z_law_check [.val (eVar 14)] []), .val (eVar 4)])) (eVar 14))) (E57 ns p l (some (.lst (uD u))) (some (.int (w : Int))) (some (.lst (s.map .int))) a6 a7 none none none none none) = .nx (E57 ns p l (some (.lst (uD u))) (some (.int (w : Int))) (some (.lst (s.map .int))) a6 a7 (some (.lst (((setsL s u).filter fun r => decide (crcN r = w)).map rowD))) none none none none) := by
  have se := settings_ok hs un hu
  have sl : ((setsL s u).map rowD).length ≤ 16777216 := by
    rw [List.length_map, sets_len s _ u rfl]
    have : 2 ^ u.length ≤ 2 ^ 6 := Nat.pow_le_pow_right (by decide) un
    omega
  have ec := comp_filterC (i := 14) (c := cOf (eOp eqD [.val (eCall den_z_law_check [.val (eVar 14)] []), .val (eVar 4)])) (e := eVar 14) rowD (fun r => decide (crcN r = w)) rowD (ρ := E57 ns p l (some (.lst (uD u))) (some (.int (w : Int))) (some (.lst (s.map .int))) a6 a7 none none none none none) (by simp) (setsL s u) (fun r _ => by
    have e : decide (crcN r = w) = decide (((crcN r : Nat) : Int) = (w : Int)) := decide_eq_decide.mpr ⟨fun h => by rw [h], fun h => by omega⟩
    have c := law_check_ok r
    rw [crc_N] at c
    rw [e]
    generalize ((crcN r : Nat) : Int) = x at *
    unfold E57 rowD
    generalize r.map Dt.int = RR at *
    generalize s.map Dt.int = SS at *
    generalize l.map Dt.int = LL at *
    generalize uD u = UU at *
    generalize ns.map Dt.int = NN at *
    generalize pD p = PP at *
    simp? [c]) (fun r _ _ => rfl)
  unfold E57 at *
  generalize ((setsL s u).filter fun r => decide (crcN r = w)).map rowD = FF at *
  generalize (setsL s u).map rowD = S2 at *
  generalize s.map Dt.int = SS at *
  generalize l.map Dt.int = LL at *
  generalize uD u = UU at *
  generalize ns.map Dt.int = NN at *
  generalize pD p = PP at *
  simp? [se, ec, sl]
theorem s57_due (ns : List Int) (p : Pool) (l s : List Int) (u : List Nat) (w : Nat) (a6 a7 : Option Dt) :
    (sSet 9 (eIf (cOf (eOp eqD [.val (eOp lenD [.val (eVar 8)]), .val (eC (.int 1))])) (eOp ixD [.val (eVar 8), .val (eC (.int 0))]) (eC .non))) (E57 ns p l (some (.lst (uD u))) (some (.int (w : Int))) (some (.lst (s.map .int))) a6 a7 (some (.lst (((setsL s u).filter fun r => decide (crcN r = w)).map rowD))) none none none none) = .nx (E57 ns p l (some (.lst (uD u))) (some (.int (w : Int))) (some (.lst (s.map .int))) a6 a7 (some (.lst (((setsL s u).filter fun r => decide (crcN r = w)).map rowD))) (some (solD s u w)) none none none) := by
  unfold solD
  generalize (setsL s u).filter (fun r => decide (crcN r = w)) = F at *
  by_cases h1 : F.length = 1
  · obtain ⟨r, rfl⟩ := List.length_eq_one_iff.mp h1
    show _ = Sr.nx (E57 ns p l (some (.lst (uD u))) (some (.int (w : Int))) (some (.lst (s.map .int))) a6 a7 (some (.lst ([r].map rowD))) (some (.lst (r.map .int))) none none none)
    have r0 : [r].map rowD = [.lst (r.map .int)] := rfl
    rw [r0]
    unfold E57
    generalize r.map Dt.int = RR at *
    generalize s.map Dt.int = SS at *
    generalize l.map Dt.int = LL at *
    generalize uD u = UU at *
    generalize ns.map Dt.int = NN at *
    generalize pD p = PP at *
    have a0 : atI [Dt.lst RR] 0 = some (.lst RR) := rfl
    simp? [a0, -w_atI]
  · rw [one_ne h1]
    have fl : (F.map rowD).length = F.length := List.length_map ..
    have h1i : ¬ (F.length : Int) = 1 := by omega
    unfold E57
    generalize F.length = n at *
    generalize F.map rowD = FF at *
    generalize s.map Dt.int = SS at *
    generalize l.map Dt.int = LL at *
    generalize uD u = UU at *
    generalize ns.map Dt.int = NN at *
    generalize pD p = PP at *
    simp? [fl, h1, h1i]
theorem okD_sol {l : List Int} {u : List Nat} {w : Nat} (hl : okB l) (hu : ∀ p ∈ u, p < 8 * l.length) : okD 7 (solD l u w) := by
  have hr := (sets_rows hl.1 _ u rfl hu).1
  have hm : ∀ r ∈ (setsL l u).filter (fun r => decide (crcN r = w)), RowU l u r := fun r h => hr r (List.mem_filter.mp h).1
  unfold solD
  generalize (setsL l u).filter (fun r => decide (crcN r = w)) = F at *
  match F, hm with
  | [], _ => trivial
  | [r], h => exact okD_ints (n := 6) (by have := (h r (.head _)).n; have := hl.2; omega)
  | _ :: _ :: _, _ => trivial
theorem s57_same (ns : List Int) (p : Pool) (l : List Int) {s : List Int} (hs : okB s) {u : List Nat} (U : okU s u) {w : Nat} (hw : w < 65536) (a6 a8 : Option Dt) :
    (sIf (cOr (cNot (cTru [.val (eCall den_z_law_same [.val (eCall den_solution [.val (eVar 5), .val (eVar 3), .val (eVar 4)] []), .val (eVar 9)] [])])) (cOf (eOp neD [.val (eOp lstD [.val (eVar 5), .val (eVar 3)]), .val (eVar 7)])))
    (sRet (eC (.bl false)))
    sSkip) (E57 ns p l (some (.lst (uD u))) (some (.int (w : Int))) (some (.lst (s.map .int))) a6 (some (.lst [.lst (s.map .int), .lst (uD u)])) a8 (some (solD s u w)) none none none) = .nx (E57 ns p l (some (.lst (uD u))) (some (.int (w : Int))) (some (.lst (s.map .int))) a6 (some (.lst [.lst (s.map .int), .lst (uD u)])) a8 (some (solD s u w)) none none none) := by
  have so := solution_ok hs U hw
  have sm := same_ok2 (a := solD s u w) rfl (okD_sol (w := w) hs U.b)
  have eu : uD u = (u.map fun p : Nat => (p : Int)).map Dt.int := by unfold uD; rw [List.map_map]; rfl
  have ee : eqB (.lst [.lst (s.map .int), .lst (uD u)]) (.lst [.lst (s.map .int), .lst (uD u)]) = some true := eqB_self (n := 3) (by decide) fun d hd => by
    rcases List.mem_cons.mp hd with rfl | hd
    · exact okE_ints
    · rw [List.mem_singleton.mp hd, eu]; exact okE_ints
  unfold E57
  generalize solD s u w = SD at *
  generalize s.map Dt.int = SS at *
  generalize l.map Dt.int = LL at *
  generalize uD u = UU at *
  generalize ns.map Dt.int = NN at *
  generalize pD p = PP at *
  simp? [so, sm, ee]
def badL (n : Nat) : Nat → List Int
  | 0 => [3, 2]
  | 1 => [1, 1]
  | 2 => [-1]
  | 3 => [8 * (n : Int)]
  | 4 => [0, 1000000000]
  | _ => (List.range 25).map fun k : Nat => (k : Int)
theorem s57_bad (ns : List Int) (p : Pool) (l : List Int) (a3 a4 a5 a6 a7 a8 a9 : Option Dt) :
    ∃ (v : Nat) (p' : Pool), v < 6 ∧ (sSet 10 (eOp ixD [.val (eOp lstD [.val (eOp lstD [.val (eC (.int 3)), .val (eC (.int 2))]), .val (eOp lstD [.val (eC (.int 1)), .val (eC (.int 1))]), .val (eOp lstD [.val (eOp negD [.val (eC (.int 1))])]), .val (eOp lstD [.val (eOp mulD [.val (eC (.int 8)), .val (eOp lenD [.val (eVar 2)])])]), .val (eOp lstD [.val (eC (.int 0)), .val (eOp powD [.val (eC (.int 10)), .val (eC (.int 9))])]), .val (eRgL1 (eC (.int 25)))]), .val (eCall den_z_law_draw [.own 1, .val (eC (.int 6))] [])])) (E57 ns p l a3 a4 a5 a6 a7 a8 a9 none none none) = .nx (E57 ns p' l a3 a4 a5 a6 a7 a8 a9 (some (.lst ((badL l.length v).map .int))) none none) := by
  obtain ⟨v, p2, d2, v0, v1⟩ := draw_ok p (m := 6) (by decide) (by decide)
  obtain ⟨v, rfl, hv⟩ : ∃ k : Nat, v = (k : Int) ∧ k < 6 := ⟨v.toNat, by omega, by omega⟩
  refine ⟨v, p2, hv, ?_⟩
  have ll : (l.map Dt.int).length = l.length := List.length_map ..
  have r25 : rngL 0 25 = (badL l.length 5).map .int := by rw [rngL_map]; rfl
  have rg : rgB 0 25 = true := by decide
  have at1 : atI [Dt.lst [Dt.int 3, .int 2], Dt.lst [Dt.int 1, .int 1], Dt.lst [Dt.int (-1)], Dt.lst [Dt.int (8 * (l.length : Int))], Dt.lst [Dt.int 0, .int 1000000000], Dt.lst ((badL l.length 5).map Dt.int)] (v : Int) = some (.lst ((badL l.length v).map .int)) := by
    match v, hv with
    | 0, _ => rfl
    | 1, _ => rfl
    | 2, _ => rfl
    | 3, _ => rfl
    | 4, _ => rfl
    | 5, _ => rfl
    | n + 6, h => exact absurd h (by omega)
  have pw : powD [.int 10, .int 9] = some (.int 1000000000) := by rw [w_pow (by decide)]; rfl
  have ng : negD [.int 1] = some (.int (-1)) := rfl
  unfold E57
  generalize (badL l.length v).map Dt.int = BB at *
  generalize (badL l.length 5).map Dt.int = B5 at *
  generalize l.length = n at *
  generalize l.map Dt.int = LL at *
  generalize ns.map Dt.int = NN at *
  generalize pD p = PP at *
  generalize pD p2 = PP2 at *
  simp? [eRgL1, rg, r25, d2, ll, at1, pw, ng, -w_atI, -w_pow]
theorem bad_ok {n v : Nat} (hn : n ≤ 100) : badU n (badL n v) := by
  match v with
  | 0 => exact .inr (.inr rfl)
  | 1 => exact .inr (.inr rfl)
  | 2 => exact .inr (.inl rfl)
  | 3 => exact .inr (.inl (by unfold inU badL; simp))
  | 4 => exact .inr (.inl (by unfold inU badL; simp; omega))
  | v + 5 => exact .inl (by show 24 < ((List.range 25).map fun k : Nat => (k : Int)).length; simp)
theorem s57_turn (ns : List Int) (p : Pool) (l : List Int) {s b : List Int} (hb : b.length ≤ 100) (h : badU s.length b) (a3 a4 a6 a7 a8 a9 : Option Dt) {k : Nat} (hk : k < 2) :
    (sTry (sSeq (sIf (cOf (eOp eqD [.val (eVar 11), .val (eC (.int 0))]))
    (sDo (eCall den_solution [.val (eVar 5), .val (eVar 10), .val (eC (.int 1))] []))
    (sDo (eCall den_solution_count [.val (eVar 5), .val (eVar 10), .val (eC (.int 1))] [])))
    ((sRet (eC (.bl false))))) [("InvalidUnknowns", fun x => sAs 12 (sIf (cTru [.val (eIsX errs x "InvalidPlan")])
    (sRet (eC (.bl false)))
    sSkip))]) (E57 ns p l a3 a4 (some (.lst (s.map .int))) a6 a7 a8 a9 (some (.lst (b.map .int))) (some (.int (k : Int))) none) = .nx (E57 ns p l a3 a4 (some (.lst (s.map .int))) a6 a7 a8 a9 (some (.lst (b.map .int))) (some (.int (k : Int))) none) := by
  have sb := solution_bad hb h 1
  have cb := count_bad hb h 1
  have : k = 0 ∨ k = 1 := by omega
  unfold E57
  generalize b.map Dt.int = BB at *
  generalize s.map Dt.int = SS at *
  generalize l.map Dt.int = LL at *
  generalize ns.map Dt.int = NN at *
  generalize pD p = PP at *
  rcases this with rfl | rfl
  · simp? [sb]
  · simp? [cb]
theorem law_true : ∀ ns : List Int, ns.length ≤ 63 → ∃ outs, den_law [.rol (ns.map .int)] = .ok (.bl true) outs := by
  intro ns hns
  have key : Wq (den_law [.rol (ns.map .int)]) (fun q => ∃ outs, q = .ok (.bl true) outs) := ?_
  · exact key
  refine wq_run rfl ?_
  unfold body_law
  obtain ⟨p0, hp⟩ := pool_ok ns hns
  refine wp_eq (ρ' := [some (.rol (ns.map .int)), some (pD p0), none, none, none, none, none, none, none, none, none, none, none, none, none]) (by simp? [sg_law, hp]) ?_
  obtain ⟨n0, p1, d1, n00, n01⟩ := draw_ok p0 (m := 6) (by decide) (by decide)
  obtain ⟨N, rfl, N1⟩ : ∃ N : Nat, n0 = (N : Int) ∧ N ≤ 5 := ⟨n0.toNat, by omega, by omega⟩
  obtain ⟨l, p2, d2, hl, bl⟩ := draws_comp (i := 13) (j := 1) (m := 256) (ρ := [some (.rol (ns.map .int)), some (pD p1), none, none, none, none, none, none, none, none, none, none, none, none, none]) (by simp) (by simp) (by decide) (by decide) (by decide) (p := p1) rfl (rngL 0 (1 + N))
  rw [rngL_length] at hl
  have d2 : compL [13] (gVar 13) cYes (eCall den_z_law_draw [.own 1, .val (eC (.int 256))] []) (rngL 0 (1 + N)) [some (.rol (ns.map .int)), some (pD p1), none, none, none, none, none, none, none, none, none, none, none, none, none] = .ok (l.map .int) [some (.rol (ns.map .int)), some (pD p2), none, none, none, none, none, none, none, none, none, none, none, none, none] := d2
  have w1 : rng1D [.int ((1 : Int) + (N : Int))] = some (rngL 0 (1 + N)) := by rw [w_rg1 ⟨by omega, by omega⟩, show ((1 : Int) + (N : Int)).toNat = 1 + N by omega]
  refine wp_eq (ρ' := [some (.rol (ns.map .int)), some (pD p2), some (.lst (l.map .int)), none, none, none, none, none, none, none, none, none, none, none, none]) (by simp? [d1, w1, d2, rngL_length, show 1 + N ≤ 16777216 by omega, -w_rg1]) ?_
  have okl : okB l := ⟨bl, by omega⟩
  obtain ⟨u, p3, d3, un, ub, us⟩ := places_in_ok p2 (k := 6) (z := 8 * l.length) (by decide) ⟨by omega, by omega⟩
  rw [show ((8 * l.length : Nat) : Int) = 8 * (l.length : Int) by omega, show ((6 : Nat) : Int) = 6 from rfl] at d3
  have ll : (l.map Dt.int).length = l.length := List.length_map ..
  refine wp_eq (ρ' := E57 ns p3 l (some (.lst (uD u))) none none none none none none none none none) (by
    unfold E57
    generalize l.map Dt.int = LL at *
    generalize ns.map Dt.int = NN at *
    generalize uD u = UU at *
    simp? [ll, d3]) ?_
  obtain ⟨w, p4, hw, e3⟩ := s57_wanted ns p3 l (some (.lst (uD u)))
  refine wp_eq e3 ?_
  have l2 : (l.map Dt.int).length ≤ 16777216 := by rw [ll]; omega
  refine wp_eq (ρ' := E57 ns p4 l (some (.lst (uD u))) (some (.int (w : Int))) (some (.lst (l.map .int))) none none none none none none none) (by
    unfold E57
    generalize l.map Dt.int = LL at *
    generalize ns.map Dt.int = NN at *
    generalize uD u = UU at *
    clear d2 d3 e3
    simp? [l2]) ?_
  obtain ⟨s, p5, a6, oks, hs, e5⟩ := s57_loop ns p4 okl un ub (some (.int (w : Int)))
  refine wp_eq e5 ?_
  clear d1 d2 d3 e3 e5
  have sl : (s.map Dt.int).length ≤ 16777216 := by rw [List.length_map]; have := oks.2; omega
  have ul : (uD u).length ≤ 16777216 := by rw [List.length_map]; omega
  refine wp_eq (ρ' := E57 ns p5 l (some (.lst (uD u))) (some (.int (w : Int))) (some (.lst (s.map .int))) a6 (some (.lst [.lst (s.map .int), .lst (uD u)])) none none none none none) (by
    unfold E57
    generalize s.map Dt.int = SS at *
    generalize l.map Dt.int = LL at *
    generalize ns.map Dt.int = NN at *
    generalize uD u = UU at *
    simp? [sl, ul]) ?_
  have ubs : ∀ q ∈ u, q < 8 * s.length := by rw [hs]; exact ub
  refine wp_eq (s57_ways ns p5 l oks un ubs w _ _) ?_
  refine wp_eq (s57_due ns p5 l s u w _ _) ?_
  refine wp_eq (s57_same ns p5 l oks ⟨by omega, ubs, us⟩ hw _ _) ?_
  obtain ⟨v, p6, hv, e10⟩ := s57_bad ns p5 l (some (.lst (uD u))) (some (.int (w : Int))) (some (.lst (s.map .int))) a6 (some (.lst [.lst (s.map .int), .lst (uD u)])) (some (.lst (((setsL s u).filter fun r => decide (crcN r = w)).map rowD))) (some (solD s u w))
  refine wp_eq e10 ?_
  clear e10
  generalize some (Dt.lst [.lst (s.map .int), .lst (uD u)]) = a7
  generalize some (Dt.lst (((setsL s u).filter fun r => decide (crcN r = w)).map rowD)) = a8
  generalize some (solD s u w) = a9
  generalize some (Dt.lst (uD u)) = a3
  generalize some (Dt.int (w : Int)) = a4
  have bd := bad_ok (n := l.length) (v := v) (by omega)
  have bn : (badL l.length v).length ≤ 100 := by
    match v, hv with
    | 0, _ => show 2 ≤ 100; decide
    | 1, _ => show 2 ≤ 100; decide
    | 2, _ => show 1 ≤ 100; decide
    | 3, _ => show 1 ≤ 100; decide
    | 4, _ => show 2 ≤ 100; decide
    | 5, _ => show ((List.range 25).map fun k : Nat => (k : Int)).length ≤ 100; simp
    | n + 6, h => exact absurd h (by omega)
  have st : ∃ s' : List Int, badU s'.length (badL l.length v) ∧ (sIf (cOf (eOp eqD [.val (eOp lenD [.val (eVar 10)]), .val (eC (.int 25))]))
    (sSet 5 (eOp lstD [.val (eC (.int 1)), .val (eC (.int 2)), .val (eC (.int 3)), .val (eC (.int 4))]))
    sSkip) (E57 ns p6 l a3 a4 (some (.lst (s.map .int))) a6 a7 a8 a9 (some (.lst ((badL l.length v).map .int))) none none) = .nx (E57 ns p6 l a3 a4 (some (.lst (s'.map .int))) a6 a7 a8 a9 (some (.lst ((badL l.length v).map .int))) none none) := by
    have bl : ((badL l.length v).map Dt.int).length = (badL l.length v).length := List.length_map ..
    by_cases h25 : (badL l.length v).length = 25
    · refine ⟨[1, 2, 3, 4], .inl (by omega), ?_⟩
      show _ = Sr.nx (E57 ns p6 l a3 a4 (some (.lst [.int 1, .int 2, .int 3, .int 4])) a6 a7 a8 a9 (some (.lst ((badL l.length v).map .int))) none none)
      rw [h25] at bl
      unfold E57
      generalize (badL l.length v).map Dt.int = BB at *
      generalize s.map Dt.int = SS at *
      generalize l.map Dt.int = LL at *
      generalize ns.map Dt.int = NN at *
      simp? [bl]
    · refine ⟨s, by rw [hs]; exact bd, ?_⟩
      have h25i : ¬ ((badL l.length v).length : Int) = 25 := by omega
      unfold E57
      generalize (badL l.length v).length = bn at *
      generalize (badL l.length v).map Dt.int = BB at *
      generalize s.map Dt.int = SS at *
      generalize l.map Dt.int = LL at *
      generalize ns.map Dt.int = NN at *
      simp? [bl, h25i, h25]
  obtain ⟨s', bd', e11⟩ := st
  refine wp_eq e11 ?_
  clear e11
  generalize badL l.length v = b at *
  refine wp_st (R := fun z => ∃ a11, z = .nx (E57 ns p6 l a3 a4 (some (.lst (s'.map .int))) a6 a7 a8 a9 (some (.lst (b.map .int))) a11 none)) ?_ ?_
  · have w2 : rng1D [.int 2] = some (rngL 0 2) := by rw [w_rg1 ⟨by omega, by omega⟩]; rfl
    have ei : (iOpA rng1D [.val (eC (.int 2))]) (E57 ns p6 l a3 a4 (some (.lst (s'.map .int))) a6 a7 a8 a9 (some (.lst (b.map .int))) none none) = .ok (rngL 0 2) (E57 ns p6 l a3 a4 (some (.lst (s'.map .int))) a6 a7 a8 a9 (some (.lst (b.map .int))) none none) := by
      unfold E57
      generalize rngL 0 2 = RL at *
      generalize b.map Dt.int = BB at *
      generalize s'.map Dt.int = SS at *
      generalize l.map Dt.int = LL at *
      generalize ns.map Dt.int = NN at *
      simp? [w2, -w_rg1]
    rw [w_for, ei, w_go1]
    refine wp_rg2 (fun y : Option Dt => E57 ns p6 l a3 a4 (some (.lst (s'.map .int))) a6 a7 a8 a9 (some (.lst (b.map .int))) y none) (fun i y => True) none rfl trivial (fun i y hi _ => ?_) fun y _ => ⟨y, rfl⟩
    refine ⟨E57 ns p6 l a3 a4 (some (.lst (s'.map .int))) a6 a7 a8 a9 (some (.lst (b.map .int))) (some (.int (i : Int))) none, fun z => z = .nx (E57 ns p6 l a3 a4 (some (.lst (s'.map .int))) a6 a7 a8 a9 (some (.lst (b.map .int))) (some (.int (i : Int))) none), rfl, s57_turn ns p6 l bn bd' _ _ _ _ _ _ hi, ?_⟩
    rintro _ rfl
    exact ⟨_, rfl, trivial⟩
  · rintro _ ⟨a11, rfl⟩
    refine wp_th1 ?_
    unfold E57
    generalize b.map Dt.int = BB at *
    generalize s'.map Dt.int = SS at *
    generalize l.map Dt.int = LL at *
    generalize ns.map Dt.int = NN at *
    simp_all? []
    exact wq_rt ⟨_, rfl⟩
def topS (i : Nat) : Stmt := PySem.Challenge.pw_discwright_k57_unknown_bits_solved.main.body.getD i (.Pass ⟨0, 0, 0, 0⟩)
abbrev s_z_law_pool : Stmt := topS 25
abbrev N_z_law_pool : List Str := ["_law_script", "_law_salt", "_law_cell"]
theorem sc_z_law_pool : FnScope N_z_law_pool ["_law_script"] (defScope s_z_law_pool) := ⟨rfl, rfl, rfl, by decide +kernel, rfl, by decide +kernel, by decide +kernel⟩
abbrev s_z_law_spread : Stmt := topS 26
abbrev N_z_law_spread : List Str := ["_law_cell", "_law_mixed", "_law_wide", "_law_k"]
theorem sc_z_law_spread : FnScope N_z_law_spread ["_law_cell"] (defScope s_z_law_spread) := ⟨rfl, rfl, rfl, by decide +kernel, rfl, by decide +kernel, by decide +kernel⟩
abbrev s_z_law_draw : Stmt := topS 27
abbrev N_z_law_draw : List Str := ["_law_pool_here", "_law_many", "_law_cell", "_law_mixed", "_law_value"]
theorem sc_z_law_draw : FnScope N_z_law_draw ["_law_pool_here", "_law_many"] (defScope s_z_law_draw) := ⟨rfl, rfl, rfl, by decide +kernel, rfl, by decide +kernel, by decide +kernel⟩
abbrev s_z_law_places_in : Stmt := topS 33
abbrev N_z_law_places_in : List Str := ["_law_pool_here", "_law_many", "_law_size", "_law_chosen", "_law_k"]
theorem sc_z_law_places_in : FnScope N_z_law_places_in ["_law_pool_here", "_law_many", "_law_size"] (defScope s_z_law_places_in) := ⟨rfl, rfl, rfl, by decide +kernel, rfl, by decide +kernel, by decide +kernel⟩
abbrev s_z_law_set_bit : Stmt := topS 31
abbrev N_z_law_set_bit : List Str := ["_law_values", "_law_place", "_law_bit", "_law_found", "_law_weight"]
theorem sc_z_law_set_bit : FnScope N_z_law_set_bit ["_law_values", "_law_place", "_law_bit"] (defScope s_z_law_set_bit) := ⟨rfl, rfl, rfl, by decide +kernel, rfl, by decide +kernel, by decide +kernel⟩
abbrev s_z_law_or : Stmt := topS 29
abbrev N_z_law_or : List Str := ["_law_a", "_law_b"]
theorem sc_z_law_or : FnScope N_z_law_or ["_law_a", "_law_b"] (defScope s_z_law_or) := ⟨rfl, rfl, rfl, by decide +kernel, rfl, by decide +kernel, by decide +kernel⟩
abbrev s_z_law_check : Stmt := topS 30
abbrev N_z_law_check : List Str := ["_law_values", "_law_number", "_law_value", "_law_k", "_law_top"]
theorem sc_z_law_check : FnScope N_z_law_check ["_law_values"] (defScope s_z_law_check) := ⟨rfl, rfl, rfl, by decide +kernel, rfl, by decide +kernel, by decide +kernel⟩
abbrev s_z_law_settings : Stmt := topS 32
abbrev N_z_law_settings : List Str := ["_law_values", "_law_places", "_law_found", "_law_place", "_law_longer", "_law_row"]
theorem sc_z_law_settings : FnScope N_z_law_settings ["_law_values", "_law_places"] (defScope s_z_law_settings) := ⟨rfl, rfl, rfl, by decide +kernel, rfl, by decide +kernel, by decide +kernel⟩
abbrev s_z_law_same : Stmt := topS 28
abbrev N_z_law_same : List Str := ["_law_actual", "_law_due", "_law_k"]
theorem sc_z_law_same : FnScope N_z_law_same ["_law_actual", "_law_due"] (defScope s_z_law_same) := ⟨rfl, rfl, rfl, by decide +kernel, rfl, by decide +kernel, by decide +kernel⟩
abbrev s_Span_init : Stmt := inClass (topS 20) 0
abbrev N_Span_init : List Str := ["self"]
theorem sc_Span_init : FnScope N_Span_init ["self"] (defScope s_Span_init) := ⟨rfl, rfl, rfl, by decide +kernel, rfl, by decide +kernel, by decide +kernel⟩
abbrev s_with_bit : Stmt := topS 17
abbrev N_with_bit : List Str := ["values", "place", "bit", "found", "weight", "old"]
theorem sc_with_bit : FnScope N_with_bit ["values", "place", "bit"] (defScope s_with_bit) := ⟨rfl, rfl, rfl, by decide +kernel, rfl, by decide +kernel, by decide +kernel⟩
abbrev s_exclusive : Stmt := topS 11
abbrev N_exclusive : List Str := ["first", "second"]
theorem sc_exclusive : FnScope N_exclusive ["first", "second"] (defScope s_exclusive) := ⟨rfl, rfl, rfl, by decide +kernel, rfl, by decide +kernel, by decide +kernel⟩
abbrev s_Span_reduced_o : Stmt := inClass (topS 20) 1
abbrev N_Span_reduced_o : List Str := ["self", "number", "places", "digit", "other", "more", "kept", "place"]
theorem sc_Span_reduced_o : FnScope N_Span_reduced_o ["self", "number", "places"] (defScope s_Span_reduced_o) := ⟨rfl, rfl, rfl, by decide +kernel, rfl, by decide +kernel, by decide +kernel⟩
abbrev s_Span_add : Stmt := inClass (topS 20) 2
abbrev N_Span_add : List Str := ["self", "number", "place", "rest", "places", "digit", "at"]
theorem sc_Span_add : FnScope N_Span_add ["self", "number", "place"] (defScope s_Span_add) := ⟨rfl, rfl, rfl, by decide +kernel, rfl, by decide +kernel, by decide +kernel⟩
abbrev s_byte_bits : Stmt := topS 10
abbrev N_byte_bits : List Str := ["value", "weight"]
theorem sc_byte_bits : FnScope N_byte_bits ["value"] (defScope s_byte_bits) := ⟨rfl, rfl, rfl, by decide +kernel, rfl, by decide +kernel, by decide +kernel⟩
abbrev s_step : Stmt := topS 12
abbrev N_step : List Str := ["number", "value", "bit", "top"]
theorem sc_step : FnScope N_step ["number", "value"] (defScope s_step) := ⟨rfl, rfl, rfl, by decide +kernel, rfl, by decide +kernel, by decide +kernel⟩
abbrev s_crc : Stmt := topS 13
abbrev N_crc : List Str := ["values", "number", "value"]
theorem sc_crc : FnScope N_crc ["values"] (defScope s_crc) := ⟨rfl, rfl, rfl, by decide +kernel, rfl, by decide +kernel, by decide +kernel⟩
abbrev s_crc_change : Stmt := topS 18
abbrev N_crc_change : List Str := ["length", "place", "plain"]
theorem sc_crc_change : FnScope N_crc_change ["length", "place"] (defScope s_crc_change) := ⟨rfl, rfl, rfl, by decide +kernel, rfl, by decide +kernel, by decide +kernel⟩
abbrev s_span_of : Stmt := topS 21
abbrev N_span_of : List Str := ["values", "unknown", "plain", "span", "place"]
theorem sc_span_of : FnScope N_span_of ["values", "unknown"] (defScope s_span_of) := ⟨rfl, rfl, rfl, by decide +kernel, rfl, by decide +kernel, by decide +kernel⟩
abbrev s_Span_reduced : Stmt := inClass (topS 20) 1
abbrev N_Span_reduced : List Str := ["self", "number", "places", "digit", "other", "more", "kept", "place"]
theorem sc_Span_reduced : FnScope N_Span_reduced ["self", "number", "places"] (defScope s_Span_reduced) := ⟨rfl, rfl, rfl, by decide +kernel, rfl, by decide +kernel, by decide +kernel⟩
abbrev s_demand_unknown : Stmt := topS 19
abbrev N_demand_unknown : List Str := ["values", "unknown", "place", "at"]
theorem sc_demand_unknown : FnScope N_demand_unknown ["values", "unknown"] (defScope s_demand_unknown) := ⟨rfl, rfl, rfl, by decide +kernel, rfl, by decide +kernel, by decide +kernel⟩
abbrev s_solution_count : Stmt := topS 22
abbrev N_solution_count : List Str := ["values", "unknown", "wanted", "plain", "span", "rest", "places"]
theorem sc_solution_count : FnScope N_solution_count ["values", "unknown", "wanted"] (defScope s_solution_count) := ⟨rfl, rfl, rfl, by decide +kernel, rfl, by decide +kernel, by decide +kernel⟩
abbrev s_solution : Stmt := topS 23
abbrev N_solution : List Str := ["values", "unknown", "wanted", "plain", "span", "rest", "places", "place"]
theorem sc_solution : FnScope N_solution ["values", "unknown", "wanted"] (defScope s_solution) := ⟨rfl, rfl, rfl, by decide +kernel, rfl, by decide +kernel, by decide +kernel⟩
abbrev s_law : Stmt := topS 34
abbrev N_law : List Str := ["_law_script", "_law_pool_here", "_law_values", "_law_places", "_law_wanted", "_law_seen", "_law_place", "_law_keep", "_law_ways", "_law_due", "_law_bad", "_law_way", "e", "_law_k", "_law_row"]
theorem sc_law : FnScope N_law ["_law_script"] (defScope s_law) := ⟨rfl, rfl, rfl, by decide +kernel, rfl, by decide +kernel, by decide +kernel⟩
structure Ad where
  f_z_law_pool : Addr
  d_z_law_pool : FuncData
  f_z_law_spread : Addr
  d_z_law_spread : FuncData
  f_z_law_draw : Addr
  d_z_law_draw : FuncData
  f_z_law_places_in : Addr
  d_z_law_places_in : FuncData
  f_z_law_set_bit : Addr
  d_z_law_set_bit : FuncData
  f_z_law_or : Addr
  d_z_law_or : FuncData
  f_z_law_check : Addr
  d_z_law_check : FuncData
  f_z_law_settings : Addr
  d_z_law_settings : FuncData
  f_z_law_same : Addr
  d_z_law_same : FuncData
  f_Span_init : Addr
  d_Span_init : FuncData
  f_with_bit : Addr
  d_with_bit : FuncData
  f_exclusive : Addr
  d_exclusive : FuncData
  f_Span_reduced_o : Addr
  d_Span_reduced_o : FuncData
  f_Span_add : Addr
  d_Span_add : FuncData
  f_byte_bits : Addr
  d_byte_bits : FuncData
  f_step : Addr
  d_step : FuncData
  f_crc : Addr
  d_crc : FuncData
  f_crc_change : Addr
  d_crc_change : FuncData
  f_span_of : Addr
  d_span_of : FuncData
  f_Span_reduced : Addr
  d_Span_reduced : FuncData
  f_demand_unknown : Addr
  d_demand_unknown : FuncData
  f_solution_count : Addr
  d_solution_count : FuncData
  f_solution : Addr
  d_solution : FuncData
  f_law : Addr
  d_law : FuncData
  a_BIT_WEIGHTS : Addr
  t_CRC_START : Tok
  t_CRC_MASK : Tok
  t_WORD : Tok
  t_TOP : Tok
  t_MOST_UNKNOWN : Tok
  a_POWERS : Addr
  C_InvalidPlan : Addr
  C_InvalidUnknowns : Addr
  C_Span : Addr
def clOf (ad : Ad) : Str → Option Addr := fun n => if n = "InvalidPlan" then some ad.C_InvalidPlan else if n = "InvalidUnknowns" then some ad.C_InvalidUnknowns else if n = "Span" then some ad.C_Span else none
structure Txt (K : PySem.W.Frag) (mg : Str → Option Value) (ad : Ad) : Prop where
  F_z_law_pool : Fun K "_law_pool" "_law_pool" s_z_law_pool ad.f_z_law_pool ad.d_z_law_pool
  g_z_law_pool : mg "_law_pool" = some (.ref ad.f_z_law_pool)
  b_z_law_pool : Binds K ad.d_z_law_pool ["_law_script"] []
  F_z_law_spread : Fun K "_law_spread" "_law_spread" s_z_law_spread ad.f_z_law_spread ad.d_z_law_spread
  g_z_law_spread : mg "_law_spread" = some (.ref ad.f_z_law_spread)
  b_z_law_spread : Binds K ad.d_z_law_spread ["_law_cell"] []
  F_z_law_draw : Fun K "_law_draw" "_law_draw" s_z_law_draw ad.f_z_law_draw ad.d_z_law_draw
  g_z_law_draw : mg "_law_draw" = some (.ref ad.f_z_law_draw)
  b_z_law_draw : Binds K ad.d_z_law_draw ["_law_pool_here", "_law_many"] []
  F_z_law_places_in : Fun K "_law_places_in" "_law_places_in" s_z_law_places_in ad.f_z_law_places_in ad.d_z_law_places_in
  g_z_law_places_in : mg "_law_places_in" = some (.ref ad.f_z_law_places_in)
  b_z_law_places_in : Binds K ad.d_z_law_places_in ["_law_pool_here", "_law_many", "_law_size"] []
  F_z_law_set_bit : Fun K "_law_set_bit" "_law_set_bit" s_z_law_set_bit ad.f_z_law_set_bit ad.d_z_law_set_bit
  g_z_law_set_bit : mg "_law_set_bit" = some (.ref ad.f_z_law_set_bit)
  b_z_law_set_bit : Binds K ad.d_z_law_set_bit ["_law_values", "_law_place", "_law_bit"] []
  F_z_law_or : Fun K "_law_or" "_law_or" s_z_law_or ad.f_z_law_or ad.d_z_law_or
  g_z_law_or : mg "_law_or" = some (.ref ad.f_z_law_or)
  b_z_law_or : Binds K ad.d_z_law_or ["_law_a", "_law_b"] []
  F_z_law_check : Fun K "_law_check" "_law_check" s_z_law_check ad.f_z_law_check ad.d_z_law_check
  g_z_law_check : mg "_law_check" = some (.ref ad.f_z_law_check)
  b_z_law_check : Binds K ad.d_z_law_check ["_law_values"] []
  F_z_law_settings : Fun K "_law_settings" "_law_settings" s_z_law_settings ad.f_z_law_settings ad.d_z_law_settings
  g_z_law_settings : mg "_law_settings" = some (.ref ad.f_z_law_settings)
  b_z_law_settings : Binds K ad.d_z_law_settings ["_law_values", "_law_places"] []
  F_z_law_same : Fun K "_law_same" "_law_same" s_z_law_same ad.f_z_law_same ad.d_z_law_same
  g_z_law_same : mg "_law_same" = some (.ref ad.f_z_law_same)
  b_z_law_same : Binds K ad.d_z_law_same ["_law_actual", "_law_due"] []
  F_Span_init : Fun K "__init__" "Span.__init__" s_Span_init ad.f_Span_init ad.d_Span_init
  b_Span_init : Binds K ad.d_Span_init ["self"] []
  F_with_bit : Fun K "with_bit" "with_bit" s_with_bit ad.f_with_bit ad.d_with_bit
  g_with_bit : mg "with_bit" = some (.ref ad.f_with_bit)
  b_with_bit : Binds K ad.d_with_bit ["values", "place", "bit"] []
  F_exclusive : Fun K "exclusive" "exclusive" s_exclusive ad.f_exclusive ad.d_exclusive
  g_exclusive : mg "exclusive" = some (.ref ad.f_exclusive)
  b_exclusive : Binds K ad.d_exclusive ["first", "second"] []
  F_Span_reduced_o : Fun K "reduced" "Span.reduced" s_Span_reduced_o ad.f_Span_reduced_o ad.d_Span_reduced_o
  m_Span_reduced_o : Meth K ad.C_Span "reduced" ad.f_Span_reduced_o
  b_Span_reduced_o : Binds K ad.d_Span_reduced_o ["self", "number", "places"] []
  F_Span_add : Fun K "add" "Span.add" s_Span_add ad.f_Span_add ad.d_Span_add
  m_Span_add : Meth K ad.C_Span "add" ad.f_Span_add
  b_Span_add : Binds K ad.d_Span_add ["self", "number", "place"] []
  F_byte_bits : Fun K "byte_bits" "byte_bits" s_byte_bits ad.f_byte_bits ad.d_byte_bits
  g_byte_bits : mg "byte_bits" = some (.ref ad.f_byte_bits)
  b_byte_bits : Binds K ad.d_byte_bits ["value"] []
  F_step : Fun K "step" "step" s_step ad.f_step ad.d_step
  g_step : mg "step" = some (.ref ad.f_step)
  b_step : Binds K ad.d_step ["number", "value"] []
  F_crc : Fun K "crc" "crc" s_crc ad.f_crc ad.d_crc
  g_crc : mg "crc" = some (.ref ad.f_crc)
  b_crc : Binds K ad.d_crc ["values"] []
  F_crc_change : Fun K "crc_change" "crc_change" s_crc_change ad.f_crc_change ad.d_crc_change
  g_crc_change : mg "crc_change" = some (.ref ad.f_crc_change)
  b_crc_change : Binds K ad.d_crc_change ["length", "place"] []
  F_span_of : Fun K "span_of" "span_of" s_span_of ad.f_span_of ad.d_span_of
  g_span_of : mg "span_of" = some (.ref ad.f_span_of)
  b_span_of : Binds K ad.d_span_of ["values", "unknown"] []
  F_Span_reduced : Fun K "reduced" "Span.reduced" s_Span_reduced ad.f_Span_reduced ad.d_Span_reduced
  m_Span_reduced : Meth K ad.C_Span "reduced" ad.f_Span_reduced
  b_Span_reduced : Binds K ad.d_Span_reduced ["self", "number", "places"] []
  F_demand_unknown : Fun K "demand_unknown" "demand_unknown" s_demand_unknown ad.f_demand_unknown ad.d_demand_unknown
  g_demand_unknown : mg "demand_unknown" = some (.ref ad.f_demand_unknown)
  b_demand_unknown : Binds K ad.d_demand_unknown ["values", "unknown"] []
  F_solution_count : Fun K "solution_count" "solution_count" s_solution_count ad.f_solution_count ad.d_solution_count
  g_solution_count : mg "solution_count" = some (.ref ad.f_solution_count)
  b_solution_count : Binds K ad.d_solution_count ["values", "unknown", "wanted"] []
  F_solution : Fun K "solution" "solution" s_solution ad.f_solution ad.d_solution
  g_solution : mg "solution" = some (.ref ad.f_solution)
  b_solution : Binds K ad.d_solution ["values", "unknown", "wanted"] []
  F_law : Fun K "law" "law" s_law ad.f_law ad.d_law
  g_law : mg "law" = some (.ref ad.f_law)
  b_law : Binds K ad.d_law ["_law_script"] []
  n_all : mg "all" = none
  n_bool : mg "bool" = none
  n_int : mg "int" = none
  n_isinstance : mg "isinstance" = none
  n_len : mg "len" = none
  n_list : mg "list" = none
  n_max : mg "max" = none
  n_range : mg "range" = none
  n_sorted : mg "sorted" = none
  n_str : mg "str" = none
  n_tuple : mg "tuple" = none
  g_BIT_WEIGHTS : mg "BIT_WEIGHTS" = some (.ref ad.a_BIT_WEIGHTS)
  q_BIT_WEIGHTS : ∀ H, SqT K H ad.a_BIT_WEIGHTS (k_BIT_WEIGHTS.map V.int)
  g_CRC_START : mg "CRC_START" = some (.int (65535) ad.t_CRC_START)
  g_CRC_MASK : mg "CRC_MASK" = some (.int (4129) ad.t_CRC_MASK)
  g_WORD : mg "WORD" = some (.int (65536) ad.t_WORD)
  g_TOP : mg "TOP" = some (.int (32768) ad.t_TOP)
  g_MOST_UNKNOWN : mg "MOST_UNKNOWN" = some (.int (24) ad.t_MOST_UNKNOWN)
  g_POWERS : mg "POWERS" = some (.ref ad.a_POWERS)
  q_POWERS : ∀ H, SqT K H ad.a_POWERS (k_POWERS.map V.int)
  g_InvalidPlan : mg "InvalidPlan" = some (.ref ad.C_InvalidPlan)
  k_InvalidPlan : PySem.W.keepIn K (.ref ad.C_InvalidPlan) = true
  xb_InvalidPlan : PySem.W.subIn K (.ref ad.C_InvalidPlan) (.type "BaseException") = some true
  xt_InvalidPlan : PySem.W.typeIn K (.ref ad.C_InvalidPlan) = some (.type "type")
  xd_InvalidPlan : PySem.W.hasDictIn K ad.C_InvalidPlan = true
  g_InvalidUnknowns : mg "InvalidUnknowns" = some (.ref ad.C_InvalidUnknowns)
  x_InvalidUnknowns : PySem.W.excIn K ad.C_InvalidUnknowns [.type "ValueError", .type "Exception", .type "BaseException", .type "object"] "ValueError.__new__" = true
  k_InvalidUnknowns : PySem.W.keepIn K (.ref ad.C_InvalidUnknowns) = true
  xb_InvalidUnknowns : PySem.W.subIn K (.ref ad.C_InvalidUnknowns) (.type "BaseException") = some true
  xt_InvalidUnknowns : PySem.W.typeIn K (.ref ad.C_InvalidUnknowns) = some (.type "type")
  xd_InvalidUnknowns : PySem.W.hasDictIn K ad.C_InvalidUnknowns = true
  exm_InvalidPlan_InvalidUnknowns : PySem.W.exmOne K (.ref ad.C_InvalidPlan) (.ref ad.C_InvalidUnknowns) = some false
  exm_InvalidUnknowns_InvalidUnknowns : PySem.W.exmOne K (.ref ad.C_InvalidUnknowns) (.ref ad.C_InvalidUnknowns) = some true
  exm_Span_InvalidUnknowns : PySem.W.exmOne K (.ref ad.C_Span) (.ref ad.C_InvalidUnknowns) = some false
  ec_InvalidUnknowns : ExcC K ad.C_InvalidUnknowns
  kit_InvalidUnknowns_InvalidPlan : PySem.W.kitOne K (.ref ad.C_InvalidUnknowns) (.ref ad.C_InvalidPlan) = some false
  c_Span : Cls K ad.C_Span
  g_Span : mg "Span" = some (.ref ad.C_Span)
  na_Span_kept : NoAttr K ad.C_Span "kept"
  M_Span : Mk K ad.C_Span ad.f_Span_init
theorem clOf_InvalidPlan (ad : Ad) : clOf ad "InvalidPlan" = some ad.C_InvalidPlan := by unfold clOf; rw [if_pos rfl]
theorem clOf_InvalidUnknowns (ad : Ad) : clOf ad "InvalidUnknowns" = some ad.C_InvalidUnknowns := by unfold clOf; rw [if_neg (by decide +kernel), if_pos rfl]
theorem clOf_Span (ad : Ad) : clOf ad "Span" = some ad.C_Span := by unfold clOf; rw [if_neg (by decide +kernel), if_neg (by decide +kernel), if_pos rfl]
theorem Txt.fld_kept {K : PySem.W.Frag} {mg : Str → Option Value} {ad : Ad} (T : Txt K mg ad) : FldOk (clOf ad) K ["Span"] "kept" := fun cn h C hC => by
  have h : cn ∈ (["Span"] : List Str) := List.contains_iff_mem.mp h
  simp only [List.mem_cons, List.not_mem_nil, or_false] at h
  subst h
  · obtain rfl : ad.C_Span = C := Option.some.inj ((clOf_Span ad).symm.trans hC); exact ⟨T.c_Span, T.na_Span_kept⟩
theorem subOk {K : PySem.W.Frag} {mg : Str → Option Value} {ad : Ad} (T : Txt K mg ad) : SubOk (clOf ad) K ["InvalidUnknowns"] := fun a b A B ha hb hB => by
  have hb : b ∈ (["InvalidUnknowns"] : List Str) := List.contains_iff_mem.mp hb
  simp only [List.mem_cons, List.not_mem_nil, or_false] at hb
  unfold clOf at ha
  subst hb
  · obtain rfl : ad.C_InvalidUnknowns = B := Option.some.inj hB
    by_cases h_InvalidPlan : a = "InvalidPlan"
    · subst h_InvalidPlan; obtain rfl : ad.C_InvalidPlan = A := Option.some.inj ha; exact T.exm_InvalidPlan_InvalidUnknowns
    rw [if_neg h_InvalidPlan] at ha
    by_cases h_InvalidUnknowns : a = "InvalidUnknowns"
    · subst h_InvalidUnknowns; obtain rfl : ad.C_InvalidUnknowns = A := Option.some.inj ha; exact T.exm_InvalidUnknowns_InvalidUnknowns
    rw [if_neg h_InvalidUnknowns] at ha
    by_cases h_Span : a = "Span"
    · subst h_Span; obtain rfl : ad.C_Span = A := Option.some.inj ha; exact T.exm_Span_InvalidUnknowns
    rw [if_neg h_Span] at ha
    cases ha
theorem Txt.isx_InvalidPlan {K : PySem.W.Frag} {mg : Str → Option Value} {ad : Ad} (T : Txt K mg ad) : ∀ n D, errs.contains n = true → clOf ad n = some D → ExcC K D ∧ PySem.W.kitOne K (.ref D) (.ref ad.C_InvalidPlan) = some (subX n "InvalidPlan") := fun n D hn hD => by
  have hn : n ∈ (errs : List Str) := List.contains_iff_mem.mp hn
  simp only [errs, List.mem_cons, List.not_mem_nil, or_false] at hn
  subst hn
  · obtain rfl : ad.C_InvalidUnknowns = D := Option.some.inj hD; exact ⟨T.ec_InvalidUnknowns, T.kit_InvalidUnknowns_InvalidPlan⟩
section
variable {P : Program} {w : World} {K : PySem.W.Frag} {mg : Str → Option Value} {base : Heap} {ad : Ad}
theorem ok_z_law_pool (T : Txt K mg ad) : FnOk P w K mg base (L2.CX P w) 1 ad.f_z_law_pool ad.d_z_law_pool ["_law_script"] (spD (clOf ad) K sg_z_law_pool den_z_law_pool) :=
  def_ok T.F_z_law_pool sc_z_law_pool rfl rfl fun cdv A outer s H E hr => ⟨_, (pss_cons (ps_set (i := 1) sc_z_law_pool.nd rfl (.inl rfl) pe_int)
      (pss_cons (ps_for (passes_of rfl) rfl (pi_seqD K (pe_slice (sl_listK K) (pv 0) po_none (po_some pe_int))) (pg_name (i := 2) sc_z_law_pool.nd rfl (.inl rfl))
      (pss_one (ps_set (i := 1) sc_z_law_pool.nd rfl (.inl rfl) (pe_op op_mod (pe_callTy call_int1 (by rfl) T.n_int (by decide +kernel) (pa_cons (pe_op (op_addD K) (pe_op (op_mulD K) (pv 1) pe_int) (pv 2)) pa_nil)) pe_int))))
      (pss_one (ps_ret (pe_lst (pa_cons (pe_callTy (call_listK K) (by rfl) T.n_list (by decide +kernel) (pa_cons (pv 0) pa_nil)) (pa_cons pe_int (pa_cons pe_int (pa_cons pe_int (pa_cons (pv 1) pa_nil)))))))))),
    (ss_seq (ss_set (ss' := []) se_int)
      (ss_seq (ss_less (ss0 := []) (ss_for (ss := []) (ss1 := []) (si_seq (se_fz (se_sl slS_lst se_var so_none (so_some se_int)))) (sg_var (ss' := []))
      (ss_post (ss_set (ss' := []) (se_op2 os_mod (sa_val (se_op os_int (sa_val (se_op2 os_add (sa_val (se_op2 os_mul (sa_val se_var (sa_val se_int sa_nil))) (sa_val se_var sa_nil))) sa_nil)) (sa_val se_int sa_nil)))))))
      (ss_ret (sn_lst (sa_val (se_fz (sn_op on_list (sa_val se_var sa_nil))) (sa_val se_int (sa_val se_int (sa_val se_int (sa_val se_var sa_nil)))))))))⟩
theorem ok_z_law_spread (T : Txt K mg ad) : FnOk P w K mg base (L2.CX P w) 1 ad.f_z_law_spread ad.d_z_law_spread ["_law_cell"] (spD (clOf ad) K sg_z_law_spread den_z_law_spread) :=
  def_ok T.F_z_law_spread sc_z_law_spread rfl rfl fun cdv A outer s H E hr => ⟨_, (pss_cons (ps_set (i := 1) sc_z_law_spread.nd rfl (.inl rfl) (pe_op op_mod (pe_callTy call_int1 (by rfl) T.n_int (by decide +kernel) (pa_cons (pv 0) pa_nil)) pe_int))
      (pss_cons (ps_set (i := 2) sc_z_law_spread.nd rfl (.inl rfl) pe_int)
      (pss_cons (ps_for (passes_of rfl) rfl (pi_range1 (by rfl) T.n_range (pa_cons pe_int pa_nil)) (pg_name (i := 3) sc_z_law_spread.nd rfl (.inl rfl))
      (pss_cons (ps_set (i := 1) sc_z_law_spread.nd rfl (.inl rfl) (pe_op op_mod (pe_callTy call_int1 (by rfl) T.n_int (by decide +kernel) (pa_cons (pe_op (op_addD K) (pe_op (op_addD K) (pe_op (op_mulD K) (pv 1) pe_int) pe_int) (pv 3)) pa_nil)) pe_int))
      (pss_one (ps_set (i := 2) sc_z_law_spread.nd rfl (.inl rfl) (pe_op (op_addD K) (pe_op (op_mulD K) (pv 2) pe_int) (pv 1))))))
      (pss_one (ps_ret (pv 2)))))),
    (ss_seq (ss_set (ss' := []) (se_op2 os_mod (sa_val (se_op os_int (sa_val se_var sa_nil)) (sa_val se_int sa_nil))))
      (ss_seq (ss_set (ss' := []) se_int)
      (ss_seq (ss_less (ss0 := []) (ss_for (ss := []) (ss1 := []) (si_rng1 (sa_val se_int sa_nil)) (sg_var (ss' := []))
      (ss_post (ss_seq (ss_set (ss' := []) (se_op2 os_mod (sa_val (se_op os_int (sa_val (se_op2 os_add (sa_val (se_op2 os_add (sa_val (se_op2 os_mul (sa_val se_var (sa_val se_int sa_nil))) (sa_val se_int sa_nil))) (sa_val se_var sa_nil))) sa_nil)) (sa_val se_int sa_nil))))
      (ss_set (ss' := []) (se_op2 os_add (sa_val (se_op2 os_mul (sa_val se_var (sa_val se_int sa_nil))) (sa_val se_var sa_nil))))))))
      (ss_ret se_var))))⟩
theorem ok_z_law_draw (T : Txt K mg ad) : FnOk P w K mg base (L2.CX P w) 2 ad.f_z_law_draw ad.d_z_law_draw ["_law_pool_here", "_law_many"] (spD (clOf ad) K sg_z_law_draw den_z_law_draw) :=
  def_ok T.F_z_law_draw sc_z_law_draw rfl rfl fun cdv A outer s H E hr => ⟨_, (pss_cons (ps_if (PW.pt (pw_and (pt_cmpR op_leD (pe_ix (ix_seqD K) (pv 0) pe_int (fun _ _ => rfl)) pe_int (nomark _)) (pw_and1 (pt_cmpR op_ltD (pe_ix (ix_seqD K) (pv 0) pe_int (fun _ _ => rfl)) (pe_callB (call_lenD' K) (by rfl) T.n_len (by decide +kernel) (pa_cons (pe_ix (ix_seqD K) (pv 0) pe_int (fun _ _ => rfl)) pa_nil)) (nomark _)))))
      (pss_cons (ps_set (i := 2) sc_z_law_draw.nd rfl (.inl rfl) (pe_ix (ix_seqD K) (pe_ix (ix_seqD K) (pv 0) pe_int (fun _ _ => rfl)) (pe_ix (ix_seqD K) (pv 0) pe_int (fun _ _ => rfl)) (fun _ _ => rfl)))
      (pss_cons (ps_asg (pe_op (op_addD K) (pe_ix (ix_seqD K) (pv 0) pe_int (fun _ _ => rfl)) pe_int) (pg_sub (pv 0) pe_int set_list))
      (pss_cons (ps_asg (pv 2) (pg_sub (pv 0) pe_int set_list))
      (pss_one (ps_if (pt_cmpR op_ltD (pv 2) pe_int (nomark _))
      (pss_one (ps_asg (pe_callSD (ok_z_law_spread (K := K) T) (hr.mono (by decide)) rfl T.g_z_law_spread T.F_z_law_spread.kp T.b_z_law_spread .nil (fun σ => passAt (takes_of rfl rfl rfl rfl) σ) (pa_cons (pv 2) pa_nil)) (pg_sub (pv 0) pe_int set_list)))
      pss_nil)))))
      pss_nil)
      (pss_cons (ps_asg (pe_op (op_addD K) (pe_ix (ix_seqD K) (pv 0) pe_int (fun _ _ => rfl)) pe_int) (pg_sub (pv 0) pe_int set_list))
      (pss_cons (ps_if (pt_cmpR op_leD (pe_ix (ix_seqD K) (pv 0) pe_int (fun _ _ => rfl)) pe_int (nomark _))
      (pss_cons (ps_set (i := 3) sc_z_law_draw.nd rfl (.inl rfl) (pe_op op_mod (pe_callTy call_int1 (by rfl) T.n_int (by decide +kernel) (pa_cons (pe_op (op_addD K) (pe_op (op_addD K) (pe_op (op_mulD K) (pe_ix (ix_seqD K) (pv 0) pe_int (fun _ _ => rfl)) pe_int) (pe_op (op_mulD K) (pe_ix (ix_seqD K) (pv 0) pe_int (fun _ _ => rfl)) pe_int)) pe_int) pa_nil)) pe_int))
      (pss_cons (ps_set (i := 3) sc_z_law_draw.nd rfl (.inl rfl) (pe_op op_mod (pe_callTy call_int1 (by rfl) T.n_int (by decide +kernel) (pa_cons (pe_op (op_addD K) (pe_op (op_mulD K) (pv 3) pe_int) (pe_ix (ix_seqD K) (pv 0) pe_int (fun _ _ => rfl))) pa_nil)) pe_int))
      (pss_one (ps_ret (pe_op op_mod (pe_op op_divD (pv 3) pe_int) (pv 1))))))
      pss_nil)
      (pss_cons (ps_set (i := 4) sc_z_law_draw.nd rfl (.inl rfl) (pe_op op_mod (pe_callTy call_int1 (by rfl) T.n_int (by decide +kernel) (pa_cons (pe_ix (ix_seqD K) (pv 0) pe_int (fun _ _ => rfl)) pa_nil)) (pv 1)))
      (pss_cons (ps_asg (pe_op op_divD (pe_ix (ix_seqD K) (pv 0) pe_int (fun _ _ => rfl)) (pv 1)) (pg_sub (pv 0) pe_int set_list))
      (pss_one (ps_ret (pv 4)))))))),
    (ss_seq (ss_if (ss' := [(0, (.ls .fz))]) (st_and (st_val (se_op2 os_le (sa_val (se_op2 os_ix (sa_own (sa_val se_int sa_nil))) (sa_val se_int sa_nil)))) (st_val (se_op2 os_lt (sa_val (se_op2 os_ix (sa_own (sa_val se_int sa_nil))) (sa_val (se_op os_len (sa_val (se_op2 os_ix (sa_own (sa_val se_int sa_nil))) sa_nil)) sa_nil)))))
      (ss_seq (ss_set (ss' := [(0, (.ls .fz))]) (se_op2 os_ix (sa_val (se_op2 os_ix (sa_own (sa_val se_int sa_nil))) (sa_val (se_op2 os_ix (sa_own (sa_val se_int sa_nil))) sa_nil))))
      (ss_seq (ss_put (se_op2 os_add (sa_val (se_op2 os_ix (sa_own (sa_val se_int sa_nil))) (sa_val se_int sa_nil))) se_int)
      (ss_seq (ss_put se_var se_int)
      (ss_if (ss' := [(0, (.ls .fz))]) (st_val (se_op2 os_lt (sa_val se_var (sa_val se_int sa_nil))))
      (ss_put (se_call (g := sg_z_law_spread) (sz := [(0, (.ls .fz))]) (sa_val se_var sa_nil) consts_nil) se_int)
      ss_skip))))
      ss_skip)
      (ss_seq (ss_put (se_op2 os_add (sa_val (se_op2 os_ix (sa_own (sa_val se_int sa_nil))) (sa_val se_int sa_nil))) se_int)
      (ss_seq (ss_if (ss' := [(0, (.ls .fz))]) (st_val (se_op2 os_le (sa_val (se_op2 os_ix (sa_own (sa_val se_int sa_nil))) (sa_val se_int sa_nil))))
      (ss_seq (ss_set (ss' := [(0, (.ls .fz))]) (se_op2 os_mod (sa_val (se_op os_int (sa_val (se_op2 os_add (sa_val (se_op2 os_add (sa_val (se_op2 os_mul (sa_val (se_op2 os_ix (sa_own (sa_val se_int sa_nil))) (sa_val se_int sa_nil))) (sa_val (se_op2 os_mul (sa_val (se_op2 os_ix (sa_own (sa_val se_int sa_nil))) (sa_val se_int sa_nil))) sa_nil))) (sa_val se_int sa_nil))) sa_nil)) (sa_val se_int sa_nil))))
      (ss_seq (ss_set (ss' := [(0, (.ls .fz))]) (se_op2 os_mod (sa_val (se_op os_int (sa_val (se_op2 os_add (sa_val (se_op2 os_mul (sa_val se_var (sa_val se_int sa_nil))) (sa_val (se_op2 os_ix (sa_own (sa_val se_int sa_nil))) sa_nil))) sa_nil)) (sa_val se_int sa_nil))))
      (ss_ret (se_op2 os_mod (sa_val (se_op2 os_div (sa_val se_var (sa_val se_int sa_nil))) (sa_val se_var sa_nil))))))
      ss_skip)
      (ss_seq (ss_set (ss' := [(0, (.ls .fz))]) (se_op2 os_mod (sa_val (se_op os_int (sa_val (se_op2 os_ix (sa_own (sa_val se_int sa_nil))) sa_nil)) (sa_val se_var sa_nil))))
      (ss_seq (ss_put (se_op2 os_div (sa_val (se_op2 os_ix (sa_own (sa_val se_int sa_nil))) (sa_val se_var sa_nil))) se_int)
      (ss_ret se_var))))))⟩
theorem ok_z_law_places_in (T : Txt K mg ad) : FnOk P w K mg base (L2.CX P w) 3 ad.f_z_law_places_in ad.d_z_law_places_in ["_law_pool_here", "_law_many", "_law_size"] (spD (clOf ad) K sg_z_law_places_in den_z_law_places_in) :=
  def_ok T.F_z_law_places_in sc_z_law_places_in rfl rfl fun cdv A outer s H E hr => ⟨_, (pss_cons (ps_set (i := 3) sc_z_law_places_in.nd rfl (.inl rfl) pe_dnewK)
      (pss_cons (ps_for (passes_of rfl) rfl (pi_range1 (by rfl) T.n_range (pa_cons (pv 1) pa_nil)) (pg_name (i := 4) sc_z_law_places_in.nd rfl (.inl rfl))
      (pss_one (ps_dputK (hu1 hr) (pv 3) (pe_callSD (ok_z_law_draw (K := K) T) (hr.mono (by decide)) rfl T.g_z_law_draw T.F_z_law_draw.kp T.b_z_law_draw .nil (fun σ => passAt (takes_of rfl rfl rfl rfl) σ) (pa_cons (pv 0) (pa_cons (pv 2) pa_nil))) pe_bl)))
      (pss_one (ps_ret (pe_callB cr_sortedDIK (by rfl) T.n_sorted (by decide +kernel) (pa_cons (pv 3) pa_nil)))))),
    (ss_seq (ss_set (ss' := [(0, (.ls .fz)), (3, (.dc .fz))]) sn_dic)
      (ss_seq (ss_less (ss0 := [(0, (.ls .fz)), (3, (.dc .fz))]) (ss_for (ss := [(0, (.ls .fz)), (3, (.dc .fz))]) (ss1 := [(0, (.ls .fz)), (3, (.dc .fz))]) (si_rng1 (sa_val se_var sa_nil)) (sg_var (ss' := [(0, (.ls .fz)), (3, (.dc .fz))]))
      (ss_post (ss_dput se_bl (se_call (g := sg_z_law_draw) (sz := [(0, (.ls .fz)), (3, (.dc .fz))]) (sa_own (sa_val se_var sa_nil)) consts_nil)))))
      (ss_ret (se_fz (sn_op on_sortedD (sa_own sa_nil))))))⟩
theorem ok_z_law_set_bit (T : Txt K mg ad) : FnOk P w K mg base (L2.CX P w) 1 ad.f_z_law_set_bit ad.d_z_law_set_bit ["_law_values", "_law_place", "_law_bit"] (spD (clOf ad) K sg_z_law_set_bit den_z_law_set_bit) :=
  def_ok T.F_z_law_set_bit sc_z_law_set_bit rfl rfl fun cdv A outer s H E hr => ⟨_, (pss_cons (ps_set (i := 3) sc_z_law_set_bit.nd rfl (.inl rfl) (pe_callTy (call_listK K) (by rfl) T.n_list (by decide +kernel) (pa_cons (pv 0) pa_nil)))
      (pss_cons (ps_set (i := 4) sc_z_law_set_bit.nd rfl (.inl rfl) (pe_op op_shr pe_int (pe_op op_and (pv 1) pe_int)))
      (pss_cons (ps_asg (pe_op op_sub (pe_op op_or (pe_ix (ix_seqD K) (pv 3) (pe_op op_shr (pv 1) pe_int) (fun _ _ => rfl)) (pv 4)) (pe_op (op_mulD K) (pv 4) (pe_op op_sub pe_int (pv 2)))) (pg_sub (pv 3) (pe_op op_shr (pv 1) pe_int) set_list))
      (pss_one (ps_ret (pv 3)))))),
    (ss_seq (ss_set (ss' := [(3, (.ls .fz))]) (sn_op on_list (sa_val se_var sa_nil)))
      (ss_seq (ss_set (ss' := [(3, (.ls .fz))]) (se_op2 os_shr (sa_val se_int (sa_val (se_op2 os_and (sa_val se_var (sa_val se_int sa_nil))) sa_nil))))
      (ss_seq (ss_put (se_op2 os_sub (sa_val (se_op2 os_or (sa_val (se_op2 os_ix (sa_own (sa_val (se_op2 os_shr (sa_val se_var (sa_val se_int sa_nil))) sa_nil))) (sa_val se_var sa_nil))) (sa_val (se_op2 os_mul (sa_val se_var (sa_val (se_op2 os_sub (sa_val se_int (sa_val se_var sa_nil))) sa_nil))) sa_nil))) (se_op2 os_shr (sa_val se_var (sa_val se_int sa_nil))))
      (ss_less (ss0 := []) (ss_ret se_var)))))⟩
theorem ok_z_law_or (T : Txt K mg ad) : FnOk P w K mg base (L2.CX P w) 1 ad.f_z_law_or ad.d_z_law_or ["_law_a", "_law_b"] (spD (clOf ad) K sg_z_law_or den_z_law_or) :=
  def_ok T.F_z_law_or sc_z_law_or rfl rfl fun cdv A outer s H E hr => ⟨_, (pss_one (ps_ret (pe_op op_sub (pe_op op_or (pv 0) (pv 1)) (pe_op op_and (pv 0) (pv 1))))),
    (ss_ret (se_op2 os_sub (sa_val (se_op2 os_or (sa_val se_var (sa_val se_var sa_nil))) (sa_val (se_op2 os_and (sa_val se_var (sa_val se_var sa_nil))) sa_nil))))⟩
theorem ok_z_law_check (T : Txt K mg ad) : FnOk P w K mg base (L2.CX P w) 2 ad.f_z_law_check ad.d_z_law_check ["_law_values"] (spD (clOf ad) K sg_z_law_check den_z_law_check) :=
  def_ok T.F_z_law_check sc_z_law_check rfl rfl fun cdv A outer s H E hr => ⟨_, (pss_cons (ps_set (i := 1) sc_z_law_check.nd rfl (.inl rfl) pe_int)
      (pss_cons (ps_for (passes_of rfl) rfl (pi_seqD K (pv 0)) (pg_name (i := 2) sc_z_law_check.nd rfl (.inl rfl))
      (pss_one (ps_for (passes_of rfl) rfl (pi_range1 (by rfl) T.n_range (pa_cons pe_int pa_nil)) (pg_name (i := 3) sc_z_law_check.nd rfl (.inl rfl))
      (pss_cons (ps_set (i := 4) sc_z_law_check.nd rfl (.inl rfl) (pe_op op_and (pe_op op_shr (pv 1) pe_int) pe_int))
      (pss_cons (ps_set (i := 1) sc_z_law_check.nd rfl (.inl rfl) (pe_op op_and (pe_op op_shl (pv 1) pe_int) pe_int))
      (pss_one (ps_if (pt_cmpR (op_neDD K (hu := hr.units)) (pv 4) (pe_op op_and (pe_op op_shr (pv 2) (pe_op op_sub pe_int (pv 3))) pe_int) (nomark _))
      (pss_one (ps_set (i := 1) sc_z_law_check.nd rfl (.inl rfl) (pe_callSD (ok_z_law_or (K := K) T) (hr.mono (by decide)) rfl T.g_z_law_or T.F_z_law_or.kp T.b_z_law_or .nil (fun σ => passAt (takes_of rfl rfl rfl rfl) σ) (pa_cons (pv 1) (pa_cons pe_int pa_nil)))))
      pss_nil)))))))
      (pss_one (ps_ret (pv 1))))),
    (ss_seq (ss_set (ss' := []) se_int)
      (ss_seq (ss_less (ss0 := []) (ss_for (ss := []) (ss1 := []) (si_seq se_var) (sg_var (ss' := []))
      (ss_post (ss_less (ss0 := []) (ss_for (ss := []) (ss1 := []) (si_rng1 (sa_val se_int sa_nil)) (sg_var (ss' := []))
      (ss_post (ss_seq (ss_set (ss' := []) (se_op2 os_and (sa_val (se_op2 os_shr (sa_val se_var (sa_val se_int sa_nil))) (sa_val se_int sa_nil))))
      (ss_seq (ss_set (ss' := []) (se_op2 os_and (sa_val (se_op2 os_shl (sa_val se_var (sa_val se_int sa_nil))) (sa_val se_int sa_nil))))
      (ss_if (ss' := []) (st_val (se_op2 os_ne (sa_val se_var (sa_val (se_op2 os_and (sa_val (se_op2 os_shr (sa_val se_var (sa_val (se_op2 os_sub (sa_val se_int (sa_val se_var sa_nil))) sa_nil))) (sa_val se_int sa_nil))) sa_nil))))
      (ss_set (ss' := []) (se_call (g := sg_z_law_or) (sz := []) (sa_val se_var (sa_val se_int sa_nil)) consts_nil))
      ss_skip)))))))))
      (ss_ret se_var)))⟩
theorem ok_z_law_settings (T : Txt K mg ad) : FnOk P w K mg base (L2.CX P w) 2 ad.f_z_law_settings ad.d_z_law_settings ["_law_values", "_law_places"] (spD (clOf ad) K sg_z_law_settings den_z_law_settings) :=
  def_ok T.F_z_law_settings sc_z_law_settings rfl rfl fun cdv A outer s H E hr => ⟨_, (pss_cons (ps_set (i := 2) sc_z_law_settings.nd rfl (.inl rfl) (pe_lst (pa_cons (pe_callTy (call_listK K) (by rfl) T.n_list (by decide +kernel) (pa_cons (pv 0) pa_nil)) pa_nil)))
      (pss_cons (ps_for (passes_of rfl) rfl (pi_seqD K (pv 1)) (pg_name (i := 3) sc_z_law_settings.nd rfl (.inl rfl))
      (pss_cons (ps_set (i := 4) sc_z_law_settings.nd rfl (.inl rfl) (pe_lst pa_nil))
      (pss_cons (ps_for (passes_of rfl) rfl (pi_seqD K (pv 2)) (pg_name (i := 5) sc_z_law_settings.nd rfl (.inl rfl))
      (pss_cons (ps_expr (pe_bmK K PySem.F.plainAttrs_list PySem.F.slot_list_append PySem.F.type_list_append mt_append (pv 4) (pa_cons (pe_callSD (ok_z_law_set_bit (K := K) T) (hr.mono (by decide)) rfl T.g_z_law_set_bit T.F_z_law_set_bit.kp T.b_z_law_set_bit .nil (fun σ => passAt (takes_of rfl rfl rfl rfl) σ) (pa_cons (pv 5) (pa_cons (pv 3) (pa_cons pe_int pa_nil)))) pa_nil)))
      (pss_one (ps_expr (pe_bmK K PySem.F.plainAttrs_list PySem.F.slot_list_append PySem.F.type_list_append mt_append (pv 4) (pa_cons (pe_callSD (ok_z_law_set_bit (K := K) T) (hr.mono (by decide)) rfl T.g_z_law_set_bit T.F_z_law_set_bit.kp T.b_z_law_set_bit .nil (fun σ => passAt (takes_of rfl rfl rfl rfl) σ) (pa_cons (pv 5) (pa_cons (pv 3) (pa_cons pe_int pa_nil)))) pa_nil))))))
      (pss_one (ps_set (i := 2) sc_z_law_settings.nd rfl (.inl rfl) (pv 4))))))
      (pss_one (ps_ret (pv 2))))),
    (ss_seq (ss_set (ss' := []) (se_fz (sn_lst (sa_val (se_fz (sn_op on_list (sa_val se_var sa_nil))) sa_nil))))
      (ss_seq (ss_less (ss0 := []) (ss_for (ss := []) (ss1 := []) (si_seq se_var) (sg_var (ss' := []))
      (ss_post (ss_seq (ss_set (ss' := [(4, (.ls .fz))]) (sn_lst sa_nil))
      (ss_seq (ss_less (ss0 := [(4, (.ls .fz))]) (ss_for (ss := [(4, (.ls .fz))]) (ss1 := [(4, (.ls .fz))]) (si_seq se_var) (sg_var (ss' := [(4, (.ls .fz))]))
      (ss_post (ss_seq (ss_do (se_mutA mut_app (sa_val (se_call (g := sg_z_law_set_bit) (sz := [(4, (.ls .fz))]) (sa_val se_var (sa_val se_var (sa_val se_int sa_nil))) consts_nil) sa_nil)))
      (ss_do (se_mutA mut_app (sa_val (se_call (g := sg_z_law_set_bit) (sz := [(4, (.ls .fz))]) (sa_val se_var (sa_val se_var (sa_val se_int sa_nil))) consts_nil) sa_nil)))))))
      (ss_less (ss0 := []) (ss_set (ss' := []) se_var)))))))
      (ss_ret se_var)))⟩
theorem okN_z_law_same (T : Txt K mg ad) : ∀ n, FnOk P w K mg base (L2.CX P w) (0 + n) ad.f_z_law_same ad.d_z_law_same ["_law_actual", "_law_due"] (spD (clOf ad) K sg_z_law_same (denN_z_law_same n))
  | 0 => ⟨fun _ _ _ _ h => (no_sp h).elim, fun _ _ _ _ _ _ _ _ _ _ _ _ _ h => (no_sp h).elim⟩
  | n + 1 => by
    have IH := okN_z_law_same T n
    exact def_ok T.F_z_law_same sc_z_law_same rfl rfl fun cdv A outer s H E hr => ⟨_, (pss_cons (ps_if (PW.pt (pw_or (pt_truthK K (ha := (pe_callB (call_isiK2 K) (by rfl) T.n_isinstance (by decide +kernel) (pa_cons (pv 1) (pa_cons (pe_bltn (v := V.ty "tuple") rfl T.n_tuple (by decide +kernel) rfl) pa_nil)))) (he := by intro _; rfl)) (pw_or1 (pt_truthK K (ha := (pe_callB (call_isiK2 K) (by rfl) T.n_isinstance (by decide +kernel) (pa_cons (pv 1) (pa_cons (pe_bltn (v := V.ty "list") rfl T.n_list (by decide +kernel) rfl) pa_nil)))) (he := by intro _; rfl)))))
      (pss_cons (ps_if (PW.pt (pw_or (pt_cmpR (op_neDD K (hu := hr.units)) (pe_callB (call_isiK2 K) (by rfl) T.n_isinstance (by decide +kernel) (pa_cons (pv 1) (pa_cons (pe_bltn (v := V.ty "tuple") rfl T.n_tuple (by decide +kernel) rfl) pa_nil))) (pe_callB (call_isiK2 K) (by rfl) T.n_isinstance (by decide +kernel) (pa_cons (pv 0) (pa_cons (pe_bltn (v := V.ty "tuple") rfl T.n_tuple (by decide +kernel) rfl) pa_nil))) (nomark _)) (pw_or1 (pt_cmpR (op_neDD K (hu := hr.units)) (pe_callB (call_isiK2 K) (by rfl) T.n_isinstance (by decide +kernel) (pa_cons (pv 1) (pa_cons (pe_bltn (v := V.ty "list") rfl T.n_list (by decide +kernel) rfl) pa_nil))) (pe_callB (call_isiK2 K) (by rfl) T.n_isinstance (by decide +kernel) (pa_cons (pv 0) (pa_cons (pe_bltn (v := V.ty "list") rfl T.n_list (by decide +kernel) rfl) pa_nil))) (nomark _)))))
      (pss_one (ps_ret pe_bl))
      pss_nil)
      (pss_cons (ps_if (pt_cmpR (op_neDD K (hu := hr.units)) (pe_callB (call_lenD' K) (by rfl) T.n_len (by decide +kernel) (pa_cons (pv 0) pa_nil)) (pe_callB (call_lenD' K) (by rfl) T.n_len (by decide +kernel) (pa_cons (pv 1) pa_nil)) (nomark _))
      (pss_one (ps_ret pe_bl))
      pss_nil)
      (pss_cons (ps_for (passes_of rfl) rfl (pi_range1 (by rfl) T.n_range (pa_cons (pe_callB (call_lenD' K) (by rfl) T.n_len (by decide +kernel) (pa_cons (pv 1) pa_nil)) pa_nil)) (pg_name (i := 2) sc_z_law_same.nd rfl (.inl rfl))
      (pss_one (ps_if (pt_not (pt_truthK K (ha := (pe_callSD IH hr rfl T.g_z_law_same T.F_z_law_same.kp T.b_z_law_same .nil (fun σ => passAt (takes_of rfl rfl rfl rfl) σ) (pa_cons (pe_ix (ix_seqD K) (pv 0) (pv 2) (fun _ _ => rfl)) (pa_cons (pe_ix (ix_seqD K) (pv 1) (pv 2) (fun _ _ => rfl)) pa_nil)))) (he := by intro _; rfl)))
      (pss_one (ps_ret pe_bl))
      pss_nil)))
      (pss_one (ps_ret pe_bl)))))
      pss_nil)
      (pss_cons (ps_if (pt_cmpR op_isN (pv 1) pe_non (nomark _))
      (pss_one (ps_ret (pe_cmpR op_isN (pv 0) pe_non (nomark _))))
      pss_nil)
      (pss_cons (ps_if (pt_truthK K (ha := (pe_callB (call_isiK2 K) (by rfl) T.n_isinstance (by decide +kernel) (pa_cons (pv 1) (pa_cons (pe_bltn (v := V.ty "bool") rfl T.n_bool (by decide +kernel) rfl) pa_nil)))) (he := by intro _; rfl))
      (pss_one (ps_ret (pe_and (pe_callB (call_isiK2 K) (by rfl) T.n_isinstance (by decide +kernel) (pa_cons (pv 0) (pa_cons (pe_bltn (v := V.ty "bool") rfl T.n_bool (by decide +kernel) rfl) pa_nil))) (pe_one (pe_cmpR (op_eqDD K (hu := hr.units)) (pv 0) (pv 1) (nomark _))))))
      pss_nil)
      (pss_cons (ps_if (pt_truthK K (ha := (pe_callB (call_isiK2 K) (by rfl) T.n_isinstance (by decide +kernel) (pa_cons (pv 1) (pa_cons (pe_bltn (v := V.ty "int") rfl T.n_int (by decide +kernel) rfl) pa_nil)))) (he := by intro _; rfl))
      (pss_one (ps_ret (pe_and (pe_callB (call_isiK2 K) (by rfl) T.n_isinstance (by decide +kernel) (pa_cons (pv 0) (pa_cons (pe_bltn (v := V.ty "int") rfl T.n_int (by decide +kernel) rfl) pa_nil))) (pe_and (pe_not (pe_callB (call_isiK2 K) (by rfl) T.n_isinstance (by decide +kernel) (pa_cons (pv 0) (pa_cons (pe_bltn (v := V.ty "bool") rfl T.n_bool (by decide +kernel) rfl) pa_nil)))) (pe_one (pe_cmpR (op_eqDD K (hu := hr.units)) (pv 0) (pv 1) (nomark _)))))))
      pss_nil)
      (pss_one (ps_ret (pe_and (pe_callB (call_isiK2 K) (by rfl) T.n_isinstance (by decide +kernel) (pa_cons (pv 0) (pa_cons (pe_bltn (v := V.ty "str") rfl T.n_str (by decide +kernel) rfl) pa_nil))) (pe_one (pe_cmpR (op_eqDD K (hu := hr.units)) (pv 0) (pv 1) (nomark _)))))))))),
      (ss_seq (ss_if (ss' := []) (st_or (st_tru (sa_val (se_isi kit_tuple (sa_val se_var sa_nil)) sa_nil)) (st_tru (sa_val (se_isi kit_list (sa_val se_var sa_nil)) sa_nil)))
      (ss_seq (ss_if (ss' := []) (st_or (st_val (se_op2 os_ne (sa_val (se_isi kit_tuple (sa_val se_var sa_nil)) (sa_val (se_isi kit_tuple (sa_val se_var sa_nil)) sa_nil)))) (st_val (se_op2 os_ne (sa_val (se_isi kit_list (sa_val se_var sa_nil)) (sa_val (se_isi kit_list (sa_val se_var sa_nil)) sa_nil)))))
      (ss_ret se_bl)
      ss_skip)
      (ss_seq (ss_if (ss' := []) (st_val (se_op2 os_ne (sa_val (se_op os_len (sa_val se_var sa_nil)) (sa_val (se_op os_len (sa_val se_var sa_nil)) sa_nil))))
      (ss_ret se_bl)
      ss_skip)
      (ss_seq (ss_less (ss0 := []) (ss_for (ss := []) (ss1 := []) (si_rng1 (sa_val (se_op os_len (sa_val se_var sa_nil)) sa_nil)) (sg_var (ss' := []))
      (ss_post (ss_if (ss' := []) (st_not (st_tru (sa_val (se_call (g := sg_z_law_same) (sz := []) (sa_val (se_op2 os_ix (sa_val se_var (sa_val se_var sa_nil))) (sa_val (se_op2 os_ix (sa_val se_var (sa_val se_var sa_nil))) sa_nil)) consts_nil) sa_nil)))
      (ss_ret se_bl)
      ss_skip))))
      (ss_ret se_bl))))
      ss_skip)
      (ss_seq (ss_if (ss' := []) (st_val (se_op2 os_isN (sa_val se_var (sa_val se_non sa_nil))))
      (ss_ret (se_op2 os_isN (sa_val se_var (sa_val se_non sa_nil))))
      ss_skip)
      (ss_seq (ss_if (ss' := []) (st_tru (sa_val (se_isi kit_bool (sa_val se_var sa_nil)) sa_nil))
      (ss_ret (se_and (se_isi kit_bool (sa_val se_var sa_nil)) (se_op2 os_eq (sa_val se_var (sa_val se_var sa_nil)))))
      ss_skip)
      (ss_seq (ss_if (ss' := []) (st_tru (sa_val (se_isi kit_int (sa_val se_var sa_nil)) sa_nil))
      (ss_ret (se_and (se_isi kit_int (sa_val se_var sa_nil)) (se_and (se_not (sa_val (se_isi kit_bool (sa_val se_var sa_nil)) sa_nil)) (se_op2 os_eq (sa_val se_var (sa_val se_var sa_nil))))))
      ss_skip)
      (ss_ret (se_and (se_isi kit_str (sa_val se_var sa_nil)) (se_op2 os_eq (sa_val se_var (sa_val se_var sa_nil)))))))))⟩
theorem ok_z_law_same (T : Txt K mg ad) : FnOk P w K mg base (L2.CX P w) 8 ad.f_z_law_same ad.d_z_law_same ["_law_actual", "_law_due"] (spD (clOf ad) K sg_z_law_same den_z_law_same) := okN_z_law_same T 8
theorem ok_Span_init (T : Txt K mg ad) : FnOk P w K mg base (L2.CX P w) 1 ad.f_Span_init ad.d_Span_init ["self"] (spD (clOf ad) K sg_Span_init den_Span_init) :=
  def_ok T.F_Span_init sc_Span_init rfl rfl fun cdv A outer s H E hr => ⟨_, (pss_one (ps_fldK K (ha := (pv 0)) (hv := pe_dnewK) (hs := rfl))),
    (ss_fld (ss' := [(0, (.of "kept" (.dc .fz) .ob))]) T.fld_kept sn_dic)⟩
theorem ok_with_bit (T : Txt K mg ad) : FnOk P w K mg base (L2.CX P w) 1 ad.f_with_bit ad.d_with_bit ["values", "place", "bit"] (spD (clOf ad) K sg_with_bit den_with_bit) :=
  def_ok T.F_with_bit sc_with_bit rfl rfl fun cdv A outer s H E hr => ⟨_, (pss_cons (ps_set (i := 3) sc_with_bit.nd rfl (.inl rfl) (pe_callTy (call_listK K) (by rfl) T.n_list (by decide +kernel) (pa_cons (pv 0) pa_nil)))
      (pss_cons (ps_set (i := 4) sc_with_bit.nd rfl (.inl rfl) (pe_ix (ix_seqD K) (pe_glob (v := V.ref _) rfl T.g_BIT_WEIGHTS rfl) (pe_op op_mod (pv 1) pe_int) (fun _ _ => rfl)))
      (pss_cons (ps_set (i := 5) sc_with_bit.nd rfl (.inl rfl) (pe_op op_mod (pe_op op_divD (pe_ix (ix_seqD K) (pv 3) (pe_op op_divD (pv 1) pe_int) (fun _ _ => rfl)) (pv 4)) pe_int))
      (pss_cons (ps_augS (pv 3) (pe_op op_divD (pv 1) pe_int) (get_listK K) (pe_op (op_mulD K) (pe_op op_sub (pv 2) (pv 5)) (pv 4)) ip_add set_list)
      (pss_one (ps_ret (pv 3))))))),
    (ss_seq (ss_set (ss' := [(3, (.ls .fz))]) (sn_op on_list (sa_val se_var sa_nil)))
      (ss_seq (ss_set (ss' := [(3, (.ls .fz))]) (se_op2 os_ix (sa_val (se_const fun M => at_tupI (T.q_BIT_WEIGHTS M)) (sa_val (se_op2 os_mod (sa_val se_var (sa_val se_int sa_nil))) sa_nil))))
      (ss_seq (ss_set (ss' := [(3, (.ls .fz))]) (se_op2 os_mod (sa_val (se_op2 os_div (sa_val (se_op2 os_ix (sa_own (sa_val (se_op2 os_div (sa_val se_var (sa_val se_int sa_nil))) sa_nil))) (sa_val se_var sa_nil))) (sa_val se_int sa_nil))))
      (ss_seq (ss_augS os_addI (se_op2 os_div (sa_val se_var (sa_val se_int sa_nil))) (se_op2 os_mul (sa_val (se_op2 os_sub (sa_val se_var (sa_val se_var sa_nil))) (sa_val se_var sa_nil))))
      (ss_less (ss0 := []) (ss_ret se_var))))))⟩
theorem ok_exclusive (T : Txt K mg ad) : FnOk P w K mg base (L2.CX P w) 1 ad.f_exclusive ad.d_exclusive ["first", "second"] (spD (clOf ad) K sg_exclusive den_exclusive) :=
  def_ok T.F_exclusive sc_exclusive rfl rfl fun cdv A outer s H E hr => ⟨_, (pss_one (ps_ret (pe_op op_xor (pv 0) (pv 1)))),
    (ss_ret (se_op2 os_xor (sa_val se_var (sa_val se_var sa_nil))))⟩
theorem ok_Span_reduced_o (T : Txt K mg ad) : FnOk P w K mg base (L2.CX P w) 2 ad.f_Span_reduced_o ad.d_Span_reduced_o ["self", "number", "places"] (spD (clOf ad) K sg_Span_reduced_o den_Span_reduced_o) :=
  def_ok T.F_Span_reduced_o sc_Span_reduced_o rfl rfl fun cdv A outer s H E hr => ⟨_, (pss_cons (ps_for (passes_of rfl) rfl (pi_seqD K (pe_sortRevD (by rfl) T.n_sorted (by decide +kernel) (pa_cons (pe_fldK K (he := (pv 0)) (hb := rfl)) pa_nil) (pk_cons pe_bl pk_nil))) (pg_name (i := 3) sc_Span_reduced_o.nd rfl (.inl rfl))
      (pss_one (ps_if (pt_cmpR (op_eqDD K (hu := hr.units)) (pe_op op_mod (pe_op op_divD (pv 1) (pe_ix (ix_seqD K) (pe_glob (v := V.ref _) rfl T.g_POWERS rfl) (pv 3) (fun _ _ => rfl))) pe_int) pe_int (nomark _))
      (pss_cons (ps_asg (pe_dgetK (hu1 hr) (pe_fldK K (he := (pv 0)) (hb := rfl)) (pv 3)) (pg_tup rfl (pgs_cons (pg_name (i := 4) sc_Span_reduced_o.nd rfl (.inl rfl)) (pgs_cons (pg_name (i := 5) sc_Span_reduced_o.nd rfl (by first | exact .inl rfl | exact .inr rfl)) pgs_nil))))
      (pss_cons (ps_set (i := 1) sc_Span_reduced_o.nd rfl (.inl rfl) (pe_callSD (ok_exclusive (K := K) T) (hr.mono (by decide)) rfl T.g_exclusive T.F_exclusive.kp T.b_exclusive .nil (fun σ => passAt (takes_of rfl rfl rfl rfl) σ) (pa_cons (pv 1) (pa_cons (pv 4) pa_nil))))
      (pss_cons (ps_setLc (i := 6) (own := [("place", 7)]) (g := (gName 7)) (by rfl) sc_Span_reduced_o.nd rfl rfl (sw_true rfl rfl rfl (by decide +kernel)) (pi_seqD K (pv 2)) (blkOk_by (N := N_Span_reduced_o) (sc := defScope s_Span_reduced_o) (by decide +kernel)) (fun _ _ _ _ _ => (pg_name (i := 7) sc_Span_reduced_o.nd rfl (by first | exact .inl rfl | exact .inr rfl))) (fun _ _ _ _ _ => (pts_one (pt_cmpR (op_notInK K) (pv 7) (pv 5) (by rfl)))) (fun _ _ _ _ _ => (pv 7)))
      (pss_one (ps_set (i := 2) sc_Span_reduced_o.nd rfl (by first | exact .inl rfl | exact .inr rfl) (pe_op (op_addD K) (pv 6) (pe_lc (own := [("place", 7)]) (g := (gName 7)) (by rfl) sc_Span_reduced_o.nd (pi_seqD K (pv 5)) (blkOk_by (N := N_Span_reduced_o) (sc := defScope s_Span_reduced_o) (by decide +kernel)) (fun _ _ _ _ _ => (pg_name (i := 7) sc_Span_reduced_o.nd rfl (by first | exact .inl rfl | exact .inr rfl))) (fun _ _ _ _ _ => (pts_one (pt_cmpR (op_notInK K) (pv 7) (pv 2) (by rfl)))) (fun _ _ _ _ _ => (pv 7)))))))))
      pss_nil)))
      (pss_one (ps_ret (pe_tup (pa_cons (pv 1) (pa_cons (pv 2) pa_nil)))))),
    (ss_seq (ss_less (ss0 := [(0, (.of "kept" (.dc .fz) .ob))]) (ss_for (ss := [(0, (.of "kept" (.dc .fz) .ob))]) (ss1 := [(0, (.of "kept" (.dc .fz) .ob))]) (si_seq (se_fz (sn_op on_sortedRD (sa_fld T.fld_kept sa_nil)))) (sg_var (ss' := [(0, (.of "kept" (.dc .fz) .ob))]))
      (ss_post (ss_if (ss' := [(0, (.of "kept" (.dc .fz) .ob))]) (st_val (se_op2 os_eq (sa_val (se_op2 os_mod (sa_val (se_op2 os_div (sa_val se_var (sa_val (se_op2 os_ix (sa_val (se_const fun M => at_tupI (T.q_POWERS M)) (sa_val se_var sa_nil))) sa_nil))) (sa_val se_int sa_nil))) (sa_val se_int sa_nil))))
      (ss_seq (ss_un (se_op2 os_dget (sa_fld T.fld_kept (sa_val se_var sa_nil))) (sg_tup (sg_cons (sg_var (ss' := [(0, (.of "kept" (.dc .fz) .ob))])) (sg_cons (sg_var (ss' := [(0, (.of "kept" (.dc .fz) .ob))])) sg_nil))))
      (ss_seq (ss_set (ss' := [(0, (.of "kept" (.dc .fz) .ob))]) (se_call (g := sg_exclusive) (sz := [(0, (.of "kept" (.dc .fz) .ob))]) (sa_val se_var (sa_val se_var sa_nil)) consts_nil))
      (ss_seq (ss_set (ss' := [(0, (.of "kept" (.dc .fz) .ob))]) (se_fz (sn_comp (si_seq se_var) (sg_var (ss' := [(0, (.of "kept" (.dc .fz) .ob))])) gl_var (st_val (se_op2 os_notIn (sa_val se_var (sa_val se_var sa_nil)))) se_var)))
      (ss_set (ss' := [(0, (.of "kept" (.dc .fz) .ob))]) (se_op2 os_add (sa_val se_var (sa_val (se_fz (sn_comp (si_seq se_var) (sg_var (ss' := [(0, (.of "kept" (.dc .fz) .ob))])) gl_var (st_val (se_op2 os_notIn (sa_val se_var (sa_val se_var sa_nil)))) se_var)) sa_nil)))))))
      ss_skip))))
      (ss_ret (se_tup (sa_val se_var (sa_val se_var sa_nil)))))⟩
theorem ok_Span_add (T : Txt K mg ad) : FnOk P w K mg base (L2.CX P w) 3 ad.f_Span_add ad.d_Span_add ["self", "number", "place"] (spD (clOf ad) K sg_Span_add den_Span_add) :=
  def_ok T.F_Span_add sc_Span_add rfl rfl fun cdv A outer s H E hr => ⟨_, (pss_cons (ps_asg (pe_methS (pv 0) T.c_Span T.m_Span_reduced_o (ok_Span_reduced_o (K := K) T) (hr.mono (by decide)) T.b_Span_reduced_o .nil (fun σ => passAt (takes_of rfl rfl rfl rfl) σ) (pa_cons (pv 1) (pa_cons (pe_lst (pa_cons (pv 2) pa_nil)) pa_nil))) (pg_tup rfl (pgs_cons (pg_name (i := 3) sc_Span_add.nd rfl (by first | exact .inl rfl | exact .inr rfl)) (pgs_cons (pg_name (i := 4) sc_Span_add.nd rfl (.inl rfl)) pgs_nil))))
      (pss_one (ps_if (pt_cmpR op_gtD (pv 3) pe_int (nomark _))
      (pss_cons (ps_set (i := 5) sc_Span_add.nd rfl (.inl rfl) (pe_callB (cr_maxK K (hc := rfl)) (by rfl) T.n_max (by decide +kernel) (pa_cons (pe_lc (own := [("at", 6)]) (g := (gName 6)) (by rfl) sc_Span_add.nd (pi_range1 (by rfl) T.n_range (pa_cons pe_int pa_nil)) (blkOk_by (N := N_Span_add) (sc := defScope s_Span_add) (by decide +kernel)) (fun _ _ _ _ _ => (pg_name (i := 6) sc_Span_add.nd rfl (by first | exact .inl rfl | exact .inr rfl))) (fun _ _ _ _ _ => (pts_one (pt_cmpR (op_eqDD K (hu := hr.units)) (pe_op op_mod (pe_op op_divD (pv 3) (pe_ix (ix_seqD K) (pe_glob (v := V.ref _) rfl T.g_POWERS rfl) (pv 6) (fun _ _ => rfl))) pe_int) pe_int (nomark _)))) (fun _ _ _ _ _ => (pv 6))) pa_nil)))
      (pss_one (ps_dputK (hu1 hr) (pe_fldK K (he := (pv 0)) (hb := rfl)) (pv 5) (pe_tup (pa_cons (pv 3) (pa_cons (pv 4) pa_nil))))))
      pss_nil))),
    (ss_seq (ss_un (se_methO (sz := [(0, (.of "kept" (.dc .fz) .ob))]) (hC := clOf_Span ad) (sa_val se_var (sa_val (se_fz (sn_lst (sa_val se_var sa_nil))) sa_nil)) consts_nil) (sg_tup (sg_cons (sg_var (ss' := [(0, (.of "kept" (.dc .fz) .ob))])) (sg_cons (sg_var (ss' := [(0, (.of "kept" (.dc .fz) .ob))])) sg_nil))))
      (ss_if (ss' := [(0, (.of "kept" (.dc .fz) .ob))]) (st_val (se_op2 os_gt (sa_val se_var (sa_val se_int sa_nil))))
      (ss_seq (ss_set (ss' := [(0, (.of "kept" (.dc .fz) .ob))]) (se_op os_maxL (sa_val (se_fz (sn_comp (si_rng1 (sa_val se_int sa_nil)) (sg_var (ss' := [(0, (.of "kept" (.dc .fz) .ob))])) gl_var (st_val (se_op2 os_eq (sa_val (se_op2 os_mod (sa_val (se_op2 os_div (sa_val se_var (sa_val (se_op2 os_ix (sa_val (se_const fun M => at_tupI (T.q_POWERS M)) (sa_val se_var sa_nil))) sa_nil))) (sa_val se_int sa_nil))) (sa_val se_int sa_nil)))) se_var)) sa_nil)))
      (ss_dputF T.fld_kept (se_tup (sa_val se_var (sa_val se_var sa_nil))) se_var))
      ss_skip))⟩
theorem ok_byte_bits (T : Txt K mg ad) : FnOk P w K mg base (L2.CX P w) 1 ad.f_byte_bits ad.d_byte_bits ["value"] (spD (clOf ad) K sg_byte_bits den_byte_bits) :=
  def_ok T.F_byte_bits sc_byte_bits rfl rfl fun cdv A outer s H E hr => ⟨_, (pss_one (ps_ret (pe_lc (own := [("weight", 1)]) (g := (gName 1)) (tt := tYes) (by rfl) sc_byte_bits.nd (pi_seqD K (pe_glob (v := V.ref _) rfl T.g_BIT_WEIGHTS rfl)) (blkOk_by (N := N_byte_bits) (sc := defScope s_byte_bits) (by decide +kernel)) (fun _ _ _ _ _ => (pg_name (i := 1) sc_byte_bits.nd rfl (by first | exact .inl rfl | exact .inr rfl))) (fun _ _ _ _ _ => pts_nil) (fun _ _ _ _ _ => (pe_op op_mod (pe_op op_divD (pv 0) (pv 1)) pe_int))))),
    (ss_ret (se_fz (sn_comp (si_seq (se_const fun M => at_tupI (T.q_BIT_WEIGHTS M))) (sg_var (ss' := [])) gl_var st_yes (se_op2 os_mod (sa_val (se_op2 os_div (sa_val se_var (sa_val se_var sa_nil))) (sa_val se_int sa_nil))))))⟩
theorem ok_step (T : Txt K mg ad) : FnOk P w K mg base (L2.CX P w) 2 ad.f_step ad.d_step ["number", "value"] (spD (clOf ad) K sg_step den_step) :=
  def_ok T.F_step sc_step rfl rfl fun cdv A outer s H E hr => ⟨_, (pss_cons (ps_for (passes_of rfl) rfl (pi_seqD K (pe_callSD (ok_byte_bits (K := K) T) (hr.mono (by decide)) rfl T.g_byte_bits T.F_byte_bits.kp T.b_byte_bits .nil (fun σ => passAt (takes_of rfl rfl rfl rfl) σ) (pa_cons (pv 1) pa_nil))) (pg_name (i := 2) sc_step.nd rfl (.inl rfl))
      (pss_cons (ps_set (i := 3) sc_step.nd rfl (.inl rfl) (pe_op op_divD (pv 0) (pe_glob (v := V.int _) rfl T.g_TOP ⟨_, rfl⟩)))
      (pss_cons (ps_set (i := 0) sc_step.nd rfl (.inl rfl) (pe_op op_mod (pe_op (op_mulD K) pe_int (pv 0)) (pe_glob (v := V.int _) rfl T.g_WORD ⟨_, rfl⟩)))
      (pss_one (ps_if (pt_cmpR (op_neDD K (hu := hr.units)) (pv 3) (pv 2) (nomark _))
      (pss_one (ps_set (i := 0) sc_step.nd rfl (.inl rfl) (pe_callSD (ok_exclusive (K := K) T) (hr.mono (by decide)) rfl T.g_exclusive T.F_exclusive.kp T.b_exclusive .nil (fun σ => passAt (takes_of rfl rfl rfl rfl) σ) (pa_cons (pv 0) (pa_cons (pe_glob (v := V.int _) rfl T.g_CRC_MASK ⟨_, rfl⟩) pa_nil)))))
      pss_nil)))))
      (pss_one (ps_ret (pv 0)))),
    (ss_seq (ss_less (ss0 := []) (ss_for (ss := []) (ss1 := []) (si_seq (se_call (g := sg_byte_bits) (sz := []) (sa_val se_var sa_nil) consts_nil)) (sg_var (ss' := []))
      (ss_post (ss_seq (ss_set (ss' := []) (se_op2 os_div (sa_val se_var (sa_val se_int sa_nil))))
      (ss_seq (ss_set (ss' := []) (se_op2 os_mod (sa_val (se_op2 os_mul (sa_val se_int (sa_val se_var sa_nil))) (sa_val se_int sa_nil))))
      (ss_if (ss' := []) (st_val (se_op2 os_ne (sa_val se_var (sa_val se_var sa_nil))))
      (ss_set (ss' := []) (se_call (g := sg_exclusive) (sz := []) (sa_val se_var (sa_val se_int sa_nil)) consts_nil))
      ss_skip))))))
      (ss_ret se_var))⟩
theorem ok_crc (T : Txt K mg ad) : FnOk P w K mg base (L2.CX P w) 3 ad.f_crc ad.d_crc ["values"] (spD (clOf ad) K sg_crc den_crc) :=
  def_ok T.F_crc sc_crc rfl rfl fun cdv A outer s H E hr => ⟨_, (pss_cons (ps_set (i := 1) sc_crc.nd rfl (.inl rfl) (pe_glob (v := V.int _) rfl T.g_CRC_START ⟨_, rfl⟩))
      (pss_cons (ps_for (passes_of rfl) rfl (pi_seqD K (pv 0)) (pg_name (i := 2) sc_crc.nd rfl (.inl rfl))
      (pss_one (ps_set (i := 1) sc_crc.nd rfl (.inl rfl) (pe_callSD (ok_step (K := K) T) (hr.mono (by decide)) rfl T.g_step T.F_step.kp T.b_step .nil (fun σ => passAt (takes_of rfl rfl rfl rfl) σ) (pa_cons (pv 1) (pa_cons (pv 2) pa_nil))))))
      (pss_one (ps_ret (pv 1))))),
    (ss_seq (ss_set (ss' := []) se_int)
      (ss_seq (ss_less (ss0 := []) (ss_for (ss := []) (ss1 := []) (si_seq se_var) (sg_var (ss' := []))
      (ss_post (ss_set (ss' := []) (se_call (g := sg_step) (sz := []) (sa_val se_var (sa_val se_var sa_nil)) consts_nil)))))
      (ss_ret se_var)))⟩
theorem ok_crc_change (T : Txt K mg ad) : FnOk P w K mg base (L2.CX P w) 4 ad.f_crc_change ad.d_crc_change ["length", "place"] (spD (clOf ad) K sg_crc_change den_crc_change) :=
  def_ok T.F_crc_change sc_crc_change rfl rfl fun cdv A outer s H E hr => ⟨_, (pss_cons (ps_set (i := 2) sc_crc_change.nd rfl (.inl rfl) (pe_op (op_mulD K) (pe_lst (pa_cons pe_int pa_nil)) (pv 0)))
      (pss_one (ps_ret (pe_callSD (ok_exclusive (K := K) T) (hr.mono (by decide)) rfl T.g_exclusive T.F_exclusive.kp T.b_exclusive .nil (fun σ => passAt (takes_of rfl rfl rfl rfl) σ) (pa_cons (pe_callSD (ok_crc (K := K) T) (hr.mono (by decide)) rfl T.g_crc T.F_crc.kp T.b_crc .nil (fun σ => passAt (takes_of rfl rfl rfl rfl) σ) (pa_cons (pv 2) pa_nil)) (pa_cons (pe_callSD (ok_crc (K := K) T) (hr.mono (by decide)) rfl T.g_crc T.F_crc.kp T.b_crc .nil (fun σ => passAt (takes_of rfl rfl rfl rfl) σ) (pa_cons (pe_callSD (ok_with_bit (K := K) T) (hr.mono (by decide)) rfl T.g_with_bit T.F_with_bit.kp T.b_with_bit .nil (fun σ => passAt (takes_of rfl rfl rfl rfl) σ) (pa_cons (pv 2) (pa_cons (pv 1) (pa_cons pe_int pa_nil)))) pa_nil)) pa_nil)))))),
    (ss_seq (ss_set (ss' := []) (se_op2 os_mul (sa_val (se_fz (sn_lst (sa_val se_int sa_nil))) (sa_val se_var sa_nil))))
      (ss_ret (se_call (g := sg_exclusive) (sz := []) (sa_val (se_call (g := sg_crc) (sz := []) (sa_val se_var sa_nil) consts_nil) (sa_val (se_call (g := sg_crc) (sz := []) (sa_val (se_call (g := sg_with_bit) (sz := []) (sa_val se_var (sa_val se_var (sa_val se_int sa_nil))) consts_nil) sa_nil) consts_nil) sa_nil)) consts_nil)))⟩
theorem ok_span_of (T : Txt K mg ad) : FnOk P w K mg base (L2.CX P w) 5 ad.f_span_of ad.d_span_of ["values", "unknown"] (spD (clOf ad) K sg_span_of den_span_of) :=
  def_ok T.F_span_of sc_span_of rfl rfl fun cdv A outer s H E hr => ⟨_, (pss_cons (ps_set (i := 2) sc_span_of.nd rfl (.inl rfl) (pe_callTy (call_listK K) (by rfl) T.n_list (by decide +kernel) (pa_cons (pv 0) pa_nil)))
      (pss_cons (ps_set (i := 3) sc_span_of.nd rfl (.inl rfl) (pe_makeS0 T.M_Span (ok_Span_init (K := K) T) (hr.mono (by decide)) rfl T.g_Span T.b_Span_init .nil (fun σ => passAt (takes_of rfl rfl rfl rfl) σ)))
      (pss_cons (ps_for (passes_of rfl) rfl (pi_seqD K (pv 1)) (pg_name (i := 4) sc_span_of.nd rfl (.inl rfl))
      (pss_cons (ps_set (i := 2) sc_span_of.nd rfl (.inl rfl) (pe_callSD (ok_with_bit (K := K) T) (hr.mono (by decide)) rfl T.g_with_bit T.F_with_bit.kp T.b_with_bit .nil (fun σ => passAt (takes_of rfl rfl rfl rfl) σ) (pa_cons (pv 2) (pa_cons (pv 4) (pa_cons pe_int pa_nil)))))
      (pss_one (ps_expr (pe_methS (pv 3) T.c_Span T.m_Span_add (ok_Span_add (K := K) T) (hr.mono (by decide)) T.b_Span_add .nil (fun σ => passAt (takes_of rfl rfl rfl rfl) σ) (pa_cons (pe_callSD (ok_crc_change (K := K) T) (hr.mono (by decide)) rfl T.g_crc_change T.F_crc_change.kp T.b_crc_change .nil (fun σ => passAt (takes_of rfl rfl rfl rfl) σ) (pa_cons (pe_callB (call_lenD' K) (by rfl) T.n_len (by decide +kernel) (pa_cons (pv 0) pa_nil)) (pa_cons (pv 4) pa_nil))) (pa_cons (pv 4) pa_nil)))))))
      (pss_one (ps_ret (pe_tup (pa_cons (pv 2) (pa_cons (pv 3) pa_nil)))))))),
    (ss_seq (ss_set (ss' := []) (se_fz (sn_op on_list (sa_val se_var sa_nil))))
      (ss_seq (ss_set (ss' := [(3, (.of "kept" (.dc .fz) .ob))]) (sn_make (hC := clOf_Span ad) sa_nil consts_nil))
      (ss_seq (ss_less (ss0 := [(3, (.of "kept" (.dc .fz) .ob))]) (ss_for (ss := [(3, (.of "kept" (.dc .fz) .ob))]) (ss1 := [(3, (.of "kept" (.dc .fz) .ob))]) (si_seq se_var) (sg_var (ss' := [(3, (.of "kept" (.dc .fz) .ob))]))
      (ss_post (ss_seq (ss_set (ss' := [(3, (.of "kept" (.dc .fz) .ob))]) (se_call (g := sg_with_bit) (sz := [(3, (.of "kept" (.dc .fz) .ob))]) (sa_val se_var (sa_val se_var (sa_val se_int sa_nil))) consts_nil))
      (ss_do (se_methO (sz := [(3, (.of "kept" (.dc .fz) .ob))]) (hC := clOf_Span ad) (sa_val (se_call (g := sg_crc_change) (sz := [(3, (.of "kept" (.dc .fz) .ob))]) (sa_val (se_op os_len (sa_val se_var sa_nil)) (sa_val se_var sa_nil)) consts_nil) (sa_val se_var sa_nil)) consts_nil))))))
      (ss_less (ss0 := []) (ss_ret (se_tup (sa_val se_var (sa_val se_var sa_nil))))))))⟩
theorem ok_Span_reduced (T : Txt K mg ad) : FnOk P w K mg base (L2.CX P w) 2 ad.f_Span_reduced ad.d_Span_reduced ["self", "number", "places"] (spD (clOf ad) K sg_Span_reduced den_Span_reduced) :=
  def_ok T.F_Span_reduced sc_Span_reduced rfl rfl fun cdv A outer s H E hr => ⟨_, (pss_cons (ps_for (passes_of rfl) rfl (pi_seqD K (pe_sortRevD (by rfl) T.n_sorted (by decide +kernel) (pa_cons (pe_fldK K (he := (pv 0)) (hb := rfl)) pa_nil) (pk_cons pe_bl pk_nil))) (pg_name (i := 3) sc_Span_reduced.nd rfl (.inl rfl))
      (pss_one (ps_if (pt_cmpR (op_eqDD K (hu := hr.units)) (pe_op op_mod (pe_op op_divD (pv 1) (pe_ix (ix_seqD K) (pe_glob (v := V.ref _) rfl T.g_POWERS rfl) (pv 3) (fun _ _ => rfl))) pe_int) pe_int (nomark _))
      (pss_cons (ps_asg (pe_dgetK (hu1 hr) (pe_fldK K (he := (pv 0)) (hb := rfl)) (pv 3)) (pg_tup rfl (pgs_cons (pg_name (i := 4) sc_Span_reduced.nd rfl (.inl rfl)) (pgs_cons (pg_name (i := 5) sc_Span_reduced.nd rfl (by first | exact .inl rfl | exact .inr rfl)) pgs_nil))))
      (pss_cons (ps_set (i := 1) sc_Span_reduced.nd rfl (.inl rfl) (pe_callSD (ok_exclusive (K := K) T) (hr.mono (by decide)) rfl T.g_exclusive T.F_exclusive.kp T.b_exclusive .nil (fun σ => passAt (takes_of rfl rfl rfl rfl) σ) (pa_cons (pv 1) (pa_cons (pv 4) pa_nil))))
      (pss_cons (ps_setLc (i := 6) (own := [("place", 7)]) (g := (gName 7)) (by rfl) sc_Span_reduced.nd rfl rfl (sw_true rfl rfl rfl (by decide +kernel)) (pi_seqD K (pv 2)) (blkOk_by (N := N_Span_reduced) (sc := defScope s_Span_reduced) (by decide +kernel)) (fun _ _ _ _ _ => (pg_name (i := 7) sc_Span_reduced.nd rfl (by first | exact .inl rfl | exact .inr rfl))) (fun _ _ _ _ _ => (pts_one (pt_cmpR (op_notInK K) (pv 7) (pv 5) (by rfl)))) (fun _ _ _ _ _ => (pv 7)))
      (pss_one (ps_set (i := 2) sc_Span_reduced.nd rfl (by first | exact .inl rfl | exact .inr rfl) (pe_op (op_addD K) (pv 6) (pe_lc (own := [("place", 7)]) (g := (gName 7)) (by rfl) sc_Span_reduced.nd (pi_seqD K (pv 5)) (blkOk_by (N := N_Span_reduced) (sc := defScope s_Span_reduced) (by decide +kernel)) (fun _ _ _ _ _ => (pg_name (i := 7) sc_Span_reduced.nd rfl (by first | exact .inl rfl | exact .inr rfl))) (fun _ _ _ _ _ => (pts_one (pt_cmpR (op_notInK K) (pv 7) (pv 2) (by rfl)))) (fun _ _ _ _ _ => (pv 7)))))))))
      pss_nil)))
      (pss_one (ps_ret (pe_tup (pa_cons (pv 1) (pa_cons (pv 2) pa_nil)))))),
    (ss_seq (ss_less (ss0 := []) (ss_for (ss := []) (ss1 := []) (si_seq (se_fz (sn_op on_sortedRD (sa_val (se_fld T.fld_kept se_var) sa_nil)))) (sg_var (ss' := []))
      (ss_post (ss_if (ss' := []) (st_val (se_op2 os_eq (sa_val (se_op2 os_mod (sa_val (se_op2 os_div (sa_val se_var (sa_val (se_op2 os_ix (sa_val (se_const fun M => at_tupI (T.q_POWERS M)) (sa_val se_var sa_nil))) sa_nil))) (sa_val se_int sa_nil))) (sa_val se_int sa_nil))))
      (ss_seq (ss_un (se_op2 os_dget (sa_val (se_fld T.fld_kept se_var) (sa_val se_var sa_nil))) (sg_tup (sg_cons (sg_var (ss' := [])) (sg_cons (sg_var (ss' := [])) sg_nil))))
      (ss_seq (ss_set (ss' := []) (se_call (g := sg_exclusive) (sz := []) (sa_val se_var (sa_val se_var sa_nil)) consts_nil))
      (ss_seq (ss_set (ss' := []) (se_fz (sn_comp (si_seq se_var) (sg_var (ss' := [])) gl_var (st_val (se_op2 os_notIn (sa_val se_var (sa_val se_var sa_nil)))) se_var)))
      (ss_set (ss' := []) (se_op2 os_add (sa_val se_var (sa_val (se_fz (sn_comp (si_seq se_var) (sg_var (ss' := [])) gl_var (st_val (se_op2 os_notIn (sa_val se_var (sa_val se_var sa_nil)))) se_var)) sa_nil)))))))
      ss_skip))))
      (ss_ret (se_tup (sa_val se_var (sa_val se_var sa_nil)))))⟩
theorem ok_demand_unknown (T : Txt K mg ad) : FnOk P w K mg base (L2.CX P w) 1 ad.f_demand_unknown ad.d_demand_unknown ["values", "unknown"] (spD (clOf ad) K sg_demand_unknown den_demand_unknown) :=
  def_ok T.F_demand_unknown sc_demand_unknown rfl rfl fun cdv A outer s H E hr => ⟨_, (pss_cons (ps_if (PW.pt (pw_or (pt_cmpR op_gtD (pe_callB (call_lenD' K) (by rfl) T.n_len (by decide +kernel) (pa_cons (pv 1) pa_nil)) (pe_glob (v := V.int _) rfl T.g_MOST_UNKNOWN ⟨_, rfl⟩) (nomark _)) (pw_or1 (pt_not (pt_truthK K (ha := (pe_callB (cr_allK K (hc := rfl)) (by rfl) T.n_all (by decide +kernel) (pa_cons (pe_lc (own := [("place", 2)]) (g := (gName 2)) (tt := tYes) (by rfl) sc_demand_unknown.nd (pi_seqD K (pv 1)) (blkOk_by (N := N_demand_unknown) (sc := defScope s_demand_unknown) (by decide +kernel)) (fun _ _ _ _ _ => (pg_name (i := 2) sc_demand_unknown.nd rfl (by first | exact .inl rfl | exact .inr rfl))) (fun _ _ _ _ _ => pts_nil) (fun _ _ _ _ _ => (pe_chain op_leD op_ltD pe_int (pv 2) (pe_op (op_mulD K) pe_int (pe_callB (call_lenD' K) (by rfl) T.n_len (by decide +kernel) (pa_cons (pv 0) pa_nil)))))) pa_nil))) (he := by intro _; rfl))))))
      (pss_one (ps_raise rfl (takes_of rfl rfl rfl rfl) (pmk_own PySem.F.excBase_ValueError T.x_InvalidUnknowns T.g_InvalidUnknowns T.k_InvalidUnknowns (raises_own T.xb_InvalidUnknowns T.xt_InvalidUnknowns) rfl)))
      pss_nil)
      (pss_one (ps_if (pt_not (pt_truthK K (ha := (pe_callB (cr_allK K (hc := rfl)) (by rfl) T.n_all (by decide +kernel) (pa_cons (pe_lc (own := [("at", 3)]) (g := (gName 3)) (tt := tYes) (by rfl) sc_demand_unknown.nd (pi_range2 (by rfl) T.n_range (pa_cons pe_int (pa_cons (pe_callB (call_lenD' K) (by rfl) T.n_len (by decide +kernel) (pa_cons (pv 1) pa_nil)) pa_nil))) (blkOk_by (N := N_demand_unknown) (sc := defScope s_demand_unknown) (by decide +kernel)) (fun _ _ _ _ _ => (pg_name (i := 3) sc_demand_unknown.nd rfl (by first | exact .inl rfl | exact .inr rfl))) (fun _ _ _ _ _ => pts_nil) (fun _ _ _ _ _ => (pe_cmpR op_ltD (pe_ix (ix_seqD K) (pv 1) (pe_op op_sub (pv 3) pe_int) (fun _ _ => rfl)) (pe_ix (ix_seqD K) (pv 1) (pv 3) (fun _ _ => rfl)) (nomark _)))) pa_nil))) (he := by intro _; rfl)))
      (pss_one (ps_raise rfl (takes_of rfl rfl rfl rfl) (pmk_own PySem.F.excBase_ValueError T.x_InvalidUnknowns T.g_InvalidUnknowns T.k_InvalidUnknowns (raises_own T.xb_InvalidUnknowns T.xt_InvalidUnknowns) rfl)))
      pss_nil))),
    (ss_seq (ss_if (ss' := []) (st_or (st_val (se_op2 os_gt (sa_val (se_op os_len (sa_val se_var sa_nil)) (sa_val se_int sa_nil)))) (st_not (st_tru (sa_val (se_op os_all (sa_val (se_fz (sn_comp (si_seq se_var) (sg_var (ss' := [])) gl_var st_yes (se_chain os_le os_lt se_int se_var (se_op2 os_mul (sa_val se_int (sa_val (se_op os_len (sa_val se_var sa_nil)) sa_nil)))))) sa_nil)) sa_nil))))
      (ss_raise (C := ad.C_InvalidUnknowns) rfl)
      ss_skip)
      (ss_if (ss' := []) (st_not (st_tru (sa_val (se_op os_all (sa_val (se_fz (sn_comp (si_rng2 (sa_val se_int (sa_val (se_op os_len (sa_val se_var sa_nil)) sa_nil))) (sg_var (ss' := [])) gl_var st_yes (se_op2 os_lt (sa_val (se_op2 os_ix (sa_val se_var (sa_val (se_op2 os_sub (sa_val se_var (sa_val se_int sa_nil))) sa_nil))) (sa_val (se_op2 os_ix (sa_val se_var (sa_val se_var sa_nil))) sa_nil))))) sa_nil)) sa_nil)))
      (ss_raise (C := ad.C_InvalidUnknowns) rfl)
      ss_skip))⟩
theorem ok_solution_count (T : Txt K mg ad) : FnOk P w K mg base (L2.CX P w) 6 ad.f_solution_count ad.d_solution_count ["values", "unknown", "wanted"] (spD (clOf ad) K sg_solution_count den_solution_count) :=
  def_ok T.F_solution_count sc_solution_count rfl rfl fun cdv A outer s H E hr => ⟨_, (pss_cons (ps_expr (pe_callSD (ok_demand_unknown (K := K) T) (hr.mono (by decide)) rfl T.g_demand_unknown T.F_demand_unknown.kp T.b_demand_unknown .nil (fun σ => passAt (takes_of rfl rfl rfl rfl) σ) (pa_cons (pv 0) (pa_cons (pv 1) pa_nil))))
      (pss_cons (ps_asg (pe_callSD (ok_span_of (K := K) T) (hr.mono (by decide)) rfl T.g_span_of T.F_span_of.kp T.b_span_of .nil (fun σ => passAt (takes_of rfl rfl rfl rfl) σ) (pa_cons (pv 0) (pa_cons (pv 1) pa_nil))) (pg_tup rfl (pgs_cons (pg_name (i := 3) sc_solution_count.nd rfl (.inl rfl)) (pgs_cons (pg_name (i := 4) sc_solution_count.nd rfl (.inl rfl)) pgs_nil))))
      (pss_cons (ps_asg (pe_methS (pv 4) T.c_Span T.m_Span_reduced (ok_Span_reduced (K := K) T) (hr.mono (by decide)) T.b_Span_reduced .nil (fun σ => passAt (takes_of rfl rfl rfl rfl) σ) (pa_cons (pe_callSD (ok_exclusive (K := K) T) (hr.mono (by decide)) rfl T.g_exclusive T.F_exclusive.kp T.b_exclusive .nil (fun σ => passAt (takes_of rfl rfl rfl rfl) σ) (pa_cons (pe_callSD (ok_crc (K := K) T) (hr.mono (by decide)) rfl T.g_crc T.F_crc.kp T.b_crc .nil (fun σ => passAt (takes_of rfl rfl rfl rfl) σ) (pa_cons (pv 3) pa_nil)) (pa_cons (pv 2) pa_nil))) (pa_cons (pe_lst pa_nil) pa_nil))) (pg_tup rfl (pgs_cons (pg_name (i := 5) sc_solution_count.nd rfl (.inl rfl)) (pgs_cons (pg_name (i := 6) sc_solution_count.nd rfl (.inl rfl)) pgs_nil))))
      (pss_cons (ps_if (pt_cmpR op_gtD (pv 5) pe_int (nomark _))
      (pss_one (ps_ret pe_int))
      pss_nil)
      (pss_one (ps_ret (pe_ix (ix_seqD K) (pe_glob (v := V.ref _) rfl T.g_POWERS rfl) (pe_op op_sub (pe_callB (call_lenD' K) (by rfl) T.n_len (by decide +kernel) (pa_cons (pv 1) pa_nil)) (pe_callB cr_lenDK (by rfl) T.n_len (by decide +kernel) (pa_cons (pe_fldK K (he := (pv 4)) (hb := rfl)) pa_nil))) (fun _ _ => rfl)))))))),
    (ss_seq (ss_do (se_call (g := sg_demand_unknown) (sz := []) (sa_val se_var (sa_val se_var sa_nil)) consts_nil))
      (ss_seq (ss_un (se_call (g := sg_span_of) (sz := []) (sa_val se_var (sa_val se_var sa_nil)) consts_nil) (sg_tup (sg_cons (sg_var (ss' := [])) (sg_cons (sg_var (ss' := [])) sg_nil))))
      (ss_seq (ss_un (se_methV (sz := []) (hC := clOf_Span ad) se_var (sa_val (se_call (g := sg_exclusive) (sz := []) (sa_val (se_call (g := sg_crc) (sz := []) (sa_val se_var sa_nil) consts_nil) (sa_val se_var sa_nil)) consts_nil) (sa_val (se_fz (sn_lst sa_nil)) sa_nil)) consts_nil) (sg_tup (sg_cons (sg_var (ss' := [])) (sg_cons (sg_var (ss' := [])) sg_nil))))
      (ss_seq (ss_if (ss' := []) (st_val (se_op2 os_gt (sa_val se_var (sa_val se_int sa_nil))))
      (ss_ret se_int)
      ss_skip)
      (ss_ret (se_op2 os_ix (sa_val (se_const fun M => at_tupI (T.q_POWERS M)) (sa_val (se_op2 os_sub (sa_val (se_op os_len (sa_val se_var sa_nil)) (sa_val (se_op os_lenDD (sa_val (se_fld T.fld_kept se_var) sa_nil)) sa_nil))) sa_nil))))))))⟩
theorem ok_solution (T : Txt K mg ad) : FnOk P w K mg base (L2.CX P w) 7 ad.f_solution ad.d_solution ["values", "unknown", "wanted"] (spD (clOf ad) K sg_solution den_solution) :=
  def_ok T.F_solution sc_solution rfl rfl fun cdv A outer s H E hr => ⟨_, (pss_cons (ps_if (pt_cmpR (op_neDD K (hu := hr.units)) (pe_callSD (ok_solution_count (K := K) T) (hr.mono (by decide)) rfl T.g_solution_count T.F_solution_count.kp T.b_solution_count .nil (fun σ => passAt (takes_of rfl rfl rfl rfl) σ) (pa_cons (pv 0) (pa_cons (pv 1) (pa_cons (pv 2) pa_nil)))) pe_int (nomark _))
      (pss_one (ps_ret pe_non))
      pss_nil)
      (pss_cons (ps_asg (pe_callSD (ok_span_of (K := K) T) (hr.mono (by decide)) rfl T.g_span_of T.F_span_of.kp T.b_span_of .nil (fun σ => passAt (takes_of rfl rfl rfl rfl) σ) (pa_cons (pv 0) (pa_cons (pv 1) pa_nil))) (pg_tup rfl (pgs_cons (pg_name (i := 3) sc_solution.nd rfl (.inl rfl)) (pgs_cons (pg_name (i := 4) sc_solution.nd rfl (.inl rfl)) pgs_nil))))
      (pss_cons (ps_asg (pe_methS (pv 4) T.c_Span T.m_Span_reduced (ok_Span_reduced (K := K) T) (hr.mono (by decide)) T.b_Span_reduced .nil (fun σ => passAt (takes_of rfl rfl rfl rfl) σ) (pa_cons (pe_callSD (ok_exclusive (K := K) T) (hr.mono (by decide)) rfl T.g_exclusive T.F_exclusive.kp T.b_exclusive .nil (fun σ => passAt (takes_of rfl rfl rfl rfl) σ) (pa_cons (pe_callSD (ok_crc (K := K) T) (hr.mono (by decide)) rfl T.g_crc T.F_crc.kp T.b_crc .nil (fun σ => passAt (takes_of rfl rfl rfl rfl) σ) (pa_cons (pv 3) pa_nil)) (pa_cons (pv 2) pa_nil))) (pa_cons (pe_lst pa_nil) pa_nil))) (pg_tup rfl (pgs_cons (pg_name (i := 5) sc_solution.nd rfl (.inl rfl)) (pgs_cons (pg_name (i := 6) sc_solution.nd rfl (.inl rfl)) pgs_nil))))
      (pss_cons (ps_for (passes_of rfl) rfl (pi_seqD K (pv 6)) (pg_name (i := 7) sc_solution.nd rfl (.inl rfl))
      (pss_one (ps_set (i := 3) sc_solution.nd rfl (.inl rfl) (pe_callSD (ok_with_bit (K := K) T) (hr.mono (by decide)) rfl T.g_with_bit T.F_with_bit.kp T.b_with_bit .nil (fun σ => passAt (takes_of rfl rfl rfl rfl) σ) (pa_cons (pv 3) (pa_cons (pv 7) (pa_cons pe_int pa_nil)))))))
      (pss_one (ps_ret (pv 3))))))),
    (ss_seq (ss_if (ss' := []) (st_val (se_op2 os_ne (sa_val (se_call (g := sg_solution_count) (sz := []) (sa_val se_var (sa_val se_var (sa_val se_var sa_nil))) consts_nil) (sa_val se_int sa_nil))))
      (ss_ret se_non)
      ss_skip)
      (ss_seq (ss_un (se_call (g := sg_span_of) (sz := []) (sa_val se_var (sa_val se_var sa_nil)) consts_nil) (sg_tup (sg_cons (sg_var (ss' := [])) (sg_cons (sg_var (ss' := [])) sg_nil))))
      (ss_seq (ss_un (se_methV (sz := []) (hC := clOf_Span ad) se_var (sa_val (se_call (g := sg_exclusive) (sz := []) (sa_val (se_call (g := sg_crc) (sz := []) (sa_val se_var sa_nil) consts_nil) (sa_val se_var sa_nil)) consts_nil) (sa_val (se_fz (sn_lst sa_nil)) sa_nil)) consts_nil) (sg_tup (sg_cons (sg_var (ss' := [])) (sg_cons (sg_var (ss' := [])) sg_nil))))
      (ss_seq (ss_less (ss0 := []) (ss_for (ss := []) (ss1 := []) (si_seq se_var) (sg_var (ss' := []))
      (ss_post (ss_set (ss' := []) (se_call (g := sg_with_bit) (sz := []) (sa_val se_var (sa_val se_var (sa_val se_int sa_nil))) consts_nil)))))
      (ss_ret se_var)))))⟩
theorem ok_law (T : Txt K mg ad) : FnOk P w K mg base (L2.CX P w) 9 ad.f_law ad.d_law ["_law_script"] (spD (clOf ad) K sg_law den_law) :=
  def_ok T.F_law sc_law rfl rfl fun cdv A outer s H E hr => ⟨_, (pss_cons (ps_set (i := 1) sc_law.nd rfl (by first | exact .inl rfl | exact .inr rfl) (pe_callSD (ok_z_law_pool (K := K) T) (hr.mono (by decide)) rfl T.g_z_law_pool T.F_z_law_pool.kp T.b_z_law_pool .nil (fun σ => passAt (takes_of rfl rfl rfl rfl) σ) (pa_cons (pv 0) pa_nil)))
      (pss_cons (ps_setLc (i := 2) (own := [("_law_k", 13)]) (g := (gName 13)) (tt := tYes) (by rfl) sc_law.nd rfl rfl (sw_true rfl rfl rfl (by decide +kernel)) (pi_range1 (by rfl) T.n_range (pa_cons (pe_op (op_addD K) pe_int (pe_callSD (ok_z_law_draw (K := K) T) (hr.mono (by decide)) rfl T.g_z_law_draw T.F_z_law_draw.kp T.b_z_law_draw .nil (fun σ => passAt (takes_of rfl rfl rfl rfl) σ) (pa_cons (pv 1) (pa_cons pe_int pa_nil)))) pa_nil)) (blkOk_by (N := N_law) (sc := defScope s_law) (by decide +kernel)) (fun _ _ _ _ _ => (pg_name (i := 13) sc_law.nd rfl (by first | exact .inl rfl | exact .inr rfl))) (fun _ _ _ _ _ => pts_nil) (fun _ _ _ _ _ => (pe_callSD (ok_z_law_draw (K := K) T) (hr.mono (by decide)) rfl T.g_z_law_draw T.F_z_law_draw.kp T.b_z_law_draw .nil (fun σ => passAt takes0 σ) (pa_cons (pv 1) (pa_cons pe_int pa_nil)))))
      (pss_cons (ps_set (i := 3) sc_law.nd rfl (.inl rfl) (pe_callSD (ok_z_law_places_in (K := K) T) (hr.mono (by decide)) rfl T.g_z_law_places_in T.F_z_law_places_in.kp T.b_z_law_places_in .nil (fun σ => passAt (takes_of rfl rfl rfl rfl) σ) (pa_cons (pv 1) (pa_cons pe_int (pa_cons (pe_op (op_mulD K) pe_int (pe_callB (call_lenD' K) (by rfl) T.n_len (by decide +kernel) (pa_cons (pv 2) pa_nil))) pa_nil)))))
      (pss_cons (ps_set (i := 4) sc_law.nd rfl (by first | exact .inl rfl | exact .inr rfl) (pe_ix (ix_seqD K) (pe_lst (pa_cons (pe_callSD (ok_z_law_check (K := K) T) (hr.mono (by decide)) rfl T.g_z_law_check T.F_z_law_check.kp T.b_z_law_check .nil (fun σ => passAt (takes_of rfl rfl rfl rfl) σ) (pa_cons (pv 2) pa_nil)) (pa_cons (pe_callSD (ok_z_law_draw (K := K) T) (hr.mono (by decide)) rfl T.g_z_law_draw T.F_z_law_draw.kp T.b_z_law_draw .nil (fun σ => passAt (takes_of rfl rfl rfl rfl) σ) (pa_cons (pv 1) (pa_cons pe_int pa_nil))) pa_nil))) (pe_op op_divD (pe_callSD (ok_z_law_draw (K := K) T) (hr.mono (by decide)) rfl T.g_z_law_draw T.F_z_law_draw.kp T.b_z_law_draw .nil (fun σ => passAt (takes_of rfl rfl rfl rfl) σ) (pa_cons (pv 1) (pa_cons pe_int pa_nil))) pe_int) (fun _ _ => rfl)))
      (pss_cons (ps_set (i := 5) sc_law.nd rfl (.inl rfl) (pe_callTy (call_listK K) (by rfl) T.n_list (by decide +kernel) (pa_cons (pv 2) pa_nil)))
      (pss_cons (ps_for (passes_of rfl) rfl (pi_seqD K (pv 3)) (pg_name (i := 6) sc_law.nd rfl (.inl rfl))
      (pss_one (ps_set (i := 5) sc_law.nd rfl (.inl rfl) (pe_callSD (ok_z_law_set_bit (K := K) T) (hr.mono (by decide)) rfl T.g_z_law_set_bit T.F_z_law_set_bit.kp T.b_z_law_set_bit .nil (fun σ => passAt (takes_of rfl rfl rfl rfl) σ) (pa_cons (pv 5) (pa_cons (pv 6) (pa_cons (pe_callSD (ok_z_law_draw (K := K) T) (hr.mono (by decide)) rfl T.g_z_law_draw T.F_z_law_draw.kp T.b_z_law_draw .nil (fun σ => passAt (takes_of rfl rfl rfl rfl) σ) (pa_cons (pv 1) (pa_cons pe_int pa_nil))) pa_nil)))))))
      (pss_cons (ps_set (i := 7) sc_law.nd rfl (.inl rfl) (pe_lst (pa_cons (pe_callTy (call_listK K) (by rfl) T.n_list (by decide +kernel) (pa_cons (pv 5) pa_nil)) (pa_cons (pe_callTy (call_listK K) (by rfl) T.n_list (by decide +kernel) (pa_cons (pv 3) pa_nil)) pa_nil))))
      (pss_cons (ps_setLc (i := 8) (own := [("_law_row", 14)]) (g := (gName 14)) (by rfl) sc_law.nd rfl rfl (sw_true rfl rfl rfl (by decide +kernel)) (pi_seqD K (pe_callSD (ok_z_law_settings (K := K) T) (hr.mono (by decide)) rfl T.g_z_law_settings T.F_z_law_settings.kp T.b_z_law_settings .nil (fun σ => passAt (takes_of rfl rfl rfl rfl) σ) (pa_cons (pv 5) (pa_cons (pv 3) pa_nil)))) (blkOk_by (N := N_law) (sc := defScope s_law) (by decide +kernel)) (fun _ _ _ _ _ => (pg_name (i := 14) sc_law.nd rfl (by first | exact .inl rfl | exact .inr rfl))) (fun _ _ _ _ _ => (pts_one (pt_cmpR (op_eqDD K (hu := hr.units)) (pe_callSD (ok_z_law_check (K := K) T) (hr.mono (by decide)) rfl T.g_z_law_check T.F_z_law_check.kp T.b_z_law_check .nil (fun σ => passAt takes0 σ) (pa_cons (pv 14) pa_nil)) (pv 4) (nomark _)))) (fun _ _ _ _ _ => (pv 14)))
      (pss_cons (ps_set (i := 9) sc_law.nd rfl (.inl rfl) (pe_ifExp (pt_cmpR (op_eqDD K (hu := hr.units)) (pe_callB (call_lenD' K) (by rfl) T.n_len (by decide +kernel) (pa_cons (pv 8) pa_nil)) pe_int (nomark _)) (pe_ix (ix_seqD K) (pv 8) pe_int (fun _ _ => rfl)) pe_non))
      (pss_cons (ps_if (PW.pt (pw_or (pt_not (pt_truthK K (ha := (pe_callSD (ok_z_law_same (K := K) T) (hr.mono (by decide)) rfl T.g_z_law_same T.F_z_law_same.kp T.b_z_law_same .nil (fun σ => passAt (takes_of rfl rfl rfl rfl) σ) (pa_cons (pe_callSD (ok_solution (K := K) T) (hr.mono (by decide)) rfl T.g_solution T.F_solution.kp T.b_solution .nil (fun σ => passAt (takes_of rfl rfl rfl rfl) σ) (pa_cons (pv 5) (pa_cons (pv 3) (pa_cons (pv 4) pa_nil)))) (pa_cons (pv 9) pa_nil)))) (he := by intro _; rfl))) (pw_or1 (pt_cmpR (op_neDD K (hu := hr.units)) (pe_lst (pa_cons (pv 5) (pa_cons (pv 3) pa_nil))) (pv 7) (nomark _)))))
      (pss_one (ps_ret pe_bl))
      pss_nil)
      (pss_cons (ps_set (i := 10) sc_law.nd rfl (.inl rfl) (pe_ix (ix_seqD K) (pe_lst (pa_cons (pe_lst (pa_cons pe_int (pa_cons pe_int pa_nil))) (pa_cons (pe_lst (pa_cons pe_int (pa_cons pe_int pa_nil))) (pa_cons (pe_lst (pa_cons (pe_un un_neg pe_int) pa_nil)) (pa_cons (pe_lst (pa_cons (pe_op (op_mulD K) pe_int (pe_callB (call_lenD' K) (by rfl) T.n_len (by decide +kernel) (pa_cons (pv 2) pa_nil))) pa_nil)) (pa_cons (pe_lst (pa_cons pe_int (pa_cons (pe_op op_pow pe_int pe_int) pa_nil))) (pa_cons (pe_listRg rfl (by rfl) T.n_list (prg_1 (by rfl) T.n_range pe_int)) pa_nil))))))) (pe_callSD (ok_z_law_draw (K := K) T) (hr.mono (by decide)) rfl T.g_z_law_draw T.F_z_law_draw.kp T.b_z_law_draw .nil (fun σ => passAt (takes_of rfl rfl rfl rfl) σ) (pa_cons (pv 1) (pa_cons pe_int pa_nil))) (fun _ _ => rfl)))
      (pss_cons (ps_if (pt_cmpR (op_eqDD K (hu := hr.units)) (pe_callB (call_lenD' K) (by rfl) T.n_len (by decide +kernel) (pa_cons (pv 10) pa_nil)) pe_int (nomark _))
      (pss_one (ps_set (i := 5) sc_law.nd rfl (.inl rfl) (pe_lst (pa_cons pe_int (pa_cons pe_int (pa_cons pe_int (pa_cons pe_int pa_nil)))))))
      pss_nil)
      (pss_cons (ps_for (passes_of rfl) rfl (pi_range1 (by rfl) T.n_range (pa_cons pe_int pa_nil)) (pg_name (i := 11) sc_law.nd rfl (.inl rfl))
      (pss_one (ps_try_as (i := 12) rfl rfl sc_law.nd rfl rfl ⟨rfl, by decide, .inl T.g_InvalidUnknowns⟩ (takes_of rfl rfl rfl rfl) (fun W pn xe tk po => (pss_cons (ps_if (pt_cmpR (op_eqDD K (hu := hr.units)) (pv 11) pe_int (nomark _))
      (pss_one (ps_expr (pe_callSD (ok_solution (K := K) T) (hr.mono (by decide)) rfl T.g_solution T.F_solution.kp T.b_solution .nil (fun σ => passAt tk σ) (pa_cons (pv 5) (pa_cons (pv 10) (pa_cons pe_int pa_nil))))))
      (pss_one (ps_expr (pe_callSD (ok_solution_count (K := K) T) (hr.mono (by decide)) rfl T.g_solution_count T.F_solution_count.kp T.b_solution_count .nil (fun σ => passAt tk σ) (pa_cons (pv 5) (pa_cons (pv 10) (pa_cons pe_int pa_nil)))))))
      (pss_one (ps_ret pe_bl)))) (fun a oe cls d pn hz hf => (pss_one (ps_if (pt_truthK K (ha := (pe_callB (call_isEx K (hz := hz) (hf := hf)) (by rfl) T.n_isinstance (by decide +kernel) (pa_cons (pv 12) (pa_cons (pe_glob (v := V.ref _) rfl T.g_InvalidPlan rfl) pa_nil)))) (he := by intro _; rfl))
      (pss_one (ps_ret pe_bl))
      pss_nil))))))
      (pss_one (ps_ret pe_bl))))))))))))))),
    (ss_seq (ss_set (ss' := [(1, (.ls .fz))]) (se_call (g := sg_z_law_pool) (sz := []) (sa_val se_var sa_nil) consts_nil))
      (ss_seq (ss_set (ss' := [(1, (.ls .fz))]) (se_fz (sn_comp (si_rng1 (sa_val (se_op2 os_add (sa_val se_int (sa_val (se_call (g := sg_z_law_draw) (sz := [(1, (.ls .fz))]) (sa_own (sa_val se_int sa_nil)) consts_nil) sa_nil))) sa_nil)) (sg_var (ss' := [(1, (.ls .fz))])) gl_var st_yes (se_call (g := sg_z_law_draw) (sz := [(1, (.ls .fz))]) (sa_own (sa_val se_int sa_nil)) consts_nil))))
      (ss_seq (ss_set (ss' := [(1, (.ls .fz))]) (se_call (g := sg_z_law_places_in) (sz := [(1, (.ls .fz))]) (sa_own (sa_val se_int (sa_val (se_op2 os_mul (sa_val se_int (sa_val (se_op os_len (sa_val se_var sa_nil)) sa_nil))) sa_nil))) consts_nil))
      (ss_seq (ss_set (ss' := [(1, (.ls .fz))]) (se_op2 os_ix (sa_val (se_fz (sn_lst (sa_val (se_call (g := sg_z_law_check) (sz := [(1, (.ls .fz))]) (sa_val se_var sa_nil) consts_nil) (sa_val (se_call (g := sg_z_law_draw) (sz := [(1, (.ls .fz))]) (sa_own (sa_val se_int sa_nil)) consts_nil) sa_nil)))) (sa_val (se_op2 os_div (sa_val (se_call (g := sg_z_law_draw) (sz := [(1, (.ls .fz))]) (sa_own (sa_val se_int sa_nil)) consts_nil) (sa_val se_int sa_nil))) sa_nil))))
      (ss_seq (ss_set (ss' := [(1, (.ls .fz))]) (se_fz (sn_op on_list (sa_val se_var sa_nil))))
      (ss_seq (ss_less (ss0 := [(1, (.ls .fz))]) (ss_for (ss := [(1, (.ls .fz))]) (ss1 := [(1, (.ls .fz))]) (si_seq se_var) (sg_var (ss' := [(1, (.ls .fz))]))
      (ss_post (ss_set (ss' := [(1, (.ls .fz))]) (se_call (g := sg_z_law_set_bit) (sz := [(1, (.ls .fz))]) (sa_val se_var (sa_val se_var (sa_val (se_call (g := sg_z_law_draw) (sz := [(1, (.ls .fz))]) (sa_own (sa_val se_int sa_nil)) consts_nil) sa_nil))) consts_nil)))))
      (ss_seq (ss_set (ss' := [(1, (.ls .fz))]) (se_fz (sn_lst (sa_val (se_fz (sn_op on_list (sa_val se_var sa_nil))) (sa_val (se_fz (sn_op on_list (sa_val se_var sa_nil))) sa_nil)))))
      (ss_seq (ss_set (ss' := [(1, (.ls .fz))]) (se_fz (sn_comp (si_seq (se_call (g := sg_z_law_settings) (sz := [(1, (.ls .fz))]) (sa_val se_var (sa_val se_var sa_nil)) consts_nil)) (sg_var (ss' := [(1, (.ls .fz))])) gl_var (st_val (se_op2 os_eq (sa_val (se_call (g := sg_z_law_check) (sz := [(1, (.ls .fz))]) (sa_val se_var sa_nil) consts_nil) (sa_val se_var sa_nil)))) se_var)))
      (ss_seq (ss_set (ss' := [(1, (.ls .fz))]) (se_if (st_val (se_op2 os_eq (sa_val (se_op os_len (sa_val se_var sa_nil)) (sa_val se_int sa_nil)))) (se_op2 os_ix (sa_val se_var (sa_val se_int sa_nil))) se_non))
      (ss_seq (ss_if (ss' := [(1, (.ls .fz))]) (st_or (st_not (st_tru (sa_val (se_call (g := sg_z_law_same) (sz := [(1, (.ls .fz))]) (sa_val (se_call (g := sg_solution) (sz := [(1, (.ls .fz))]) (sa_val se_var (sa_val se_var (sa_val se_var sa_nil))) consts_nil) (sa_val se_var sa_nil)) consts_nil) sa_nil))) (st_val (se_op2 os_ne (sa_val (se_fz (sn_lst (sa_val se_var (sa_val se_var sa_nil)))) (sa_val se_var sa_nil)))))
      (ss_ret se_bl)
      ss_skip)
      (ss_seq (ss_set (ss' := [(1, (.ls .fz))]) (se_op2 os_ix (sa_val (se_fz (sn_lst (sa_val (se_fz (sn_lst (sa_val se_int (sa_val se_int sa_nil)))) (sa_val (se_fz (sn_lst (sa_val se_int (sa_val se_int sa_nil)))) (sa_val (se_fz (sn_lst (sa_val (se_op1 os_neg (sa_val se_int sa_nil)) sa_nil))) (sa_val (se_fz (sn_lst (sa_val (se_op2 os_mul (sa_val se_int (sa_val (se_op os_len (sa_val se_var sa_nil)) sa_nil))) sa_nil))) (sa_val (se_fz (sn_lst (sa_val se_int (sa_val (se_op2 os_pow (sa_val se_int (sa_val se_int sa_nil))) sa_nil)))) (sa_val (se_fz (sn_rgL1 se_int)) sa_nil)))))))) (sa_val (se_call (g := sg_z_law_draw) (sz := [(1, (.ls .fz))]) (sa_own (sa_val se_int sa_nil)) consts_nil) sa_nil))))
      (ss_seq (ss_if (ss' := [(1, (.ls .fz))]) (st_val (se_op2 os_eq (sa_val (se_op os_len (sa_val se_var sa_nil)) (sa_val se_int sa_nil))))
      (ss_set (ss' := [(1, (.ls .fz))]) (se_fz (sn_lst (sa_val se_int (sa_val se_int (sa_val se_int (sa_val se_int sa_nil)))))))
      ss_skip)
      (ss_seq (ss_less (ss0 := [(1, (.ls .fz))]) (ss_for (ss := [(1, (.ls .fz))]) (ss1 := [(1, (.ls .fz))]) (si_rng1 (sa_val se_int sa_nil)) (sg_var (ss' := [(1, (.ls .fz))]))
      (ss_post (ss_try1as (ss' := [(1, (.ls .fz))]) (sx := [(1, (.ls .fz))]) (subOk T) (C := ad.C_InvalidUnknowns) (i := 12) rfl (fun W => (ss_seq (ss_if (ss' := [(1, (.ls .fz))]) (st_val (se_op2 os_eq (sa_val se_var (sa_val se_int sa_nil))))
      (ss_do (se_call (g := sg_solution) (sz := [(1, (.ls .fz))]) (sa_val se_var (sa_val se_var (sa_val se_int sa_nil))) consts_nil))
      (ss_do (se_call (g := sg_solution_count) (sz := [(1, (.ls .fz))]) (sa_val se_var (sa_val se_var (sa_val se_int sa_nil))) consts_nil)))
      (ss_ret se_bl))) (fun a => sh_as fun x cv dx => (ss_post (ss' := [(1, (.ls .fz))]) (ss_if (ss' := [(1, (.ls .fz))]) (st_tru (sa_val (se_isx (i := 12) (a := a) (cn := "InvalidPlan") (errs := errs) (fun _ h => h.2) (List.mem_append_right _ (List.mem_singleton.mpr rfl)) rfl (T.isx_InvalidPlan) (fun D H Q h1 h2 h3 h4 => ⟨D, h1, h2, h3, h4⟩)) sa_nil))
      (ss_ret se_bl)
      ss_skip)))))))
      (ss_ret se_bl))))))))))))))⟩
end
theorem all_mk {l : PySem.W.OpenLaw} {w : World} {K : PySem.W.Frag} {h : Heap} {mg : Str → Option Value} {fa : Addr} (X : K.In h) (G : h.Ns mainGlobals mg) (hfa : mg "law" = some (.ref fa))
    {f_z_law_pool : Addr} {od_z_law_pool an_z_law_pool : Option Addr} {sl_z_law_pool : Array (Option Value)} {oc_z_law_pool kV_z_law_pool dc_z_law_pool pm_z_law_pool cd_z_law_pool ct_z_law_pool : Value}
    {f_z_law_spread : Addr} {od_z_law_spread an_z_law_spread : Option Addr} {sl_z_law_spread : Array (Option Value)} {oc_z_law_spread kV_z_law_spread dc_z_law_spread pm_z_law_spread cd_z_law_spread ct_z_law_spread : Value}
    {f_z_law_draw : Addr} {od_z_law_draw an_z_law_draw : Option Addr} {sl_z_law_draw : Array (Option Value)} {oc_z_law_draw kV_z_law_draw dc_z_law_draw pm_z_law_draw cd_z_law_draw ct_z_law_draw : Value}
    {f_z_law_places_in : Addr} {od_z_law_places_in an_z_law_places_in : Option Addr} {sl_z_law_places_in : Array (Option Value)} {oc_z_law_places_in kV_z_law_places_in dc_z_law_places_in pm_z_law_places_in cd_z_law_places_in ct_z_law_places_in : Value}
    {f_z_law_set_bit : Addr} {od_z_law_set_bit an_z_law_set_bit : Option Addr} {sl_z_law_set_bit : Array (Option Value)} {oc_z_law_set_bit kV_z_law_set_bit dc_z_law_set_bit pm_z_law_set_bit cd_z_law_set_bit ct_z_law_set_bit : Value}
    {f_z_law_or : Addr} {od_z_law_or an_z_law_or : Option Addr} {sl_z_law_or : Array (Option Value)} {oc_z_law_or kV_z_law_or dc_z_law_or pm_z_law_or cd_z_law_or ct_z_law_or : Value}
    {f_z_law_check : Addr} {od_z_law_check an_z_law_check : Option Addr} {sl_z_law_check : Array (Option Value)} {oc_z_law_check kV_z_law_check dc_z_law_check pm_z_law_check cd_z_law_check ct_z_law_check : Value}
    {f_z_law_settings : Addr} {od_z_law_settings an_z_law_settings : Option Addr} {sl_z_law_settings : Array (Option Value)} {oc_z_law_settings kV_z_law_settings dc_z_law_settings pm_z_law_settings cd_z_law_settings ct_z_law_settings : Value}
    {f_z_law_same : Addr} {od_z_law_same an_z_law_same : Option Addr} {sl_z_law_same : Array (Option Value)} {oc_z_law_same kV_z_law_same dc_z_law_same pm_z_law_same cd_z_law_same ct_z_law_same : Value}
    {f_Span_init : Addr} {od_Span_init an_Span_init : Option Addr} {sl_Span_init : Array (Option Value)} {oc_Span_init kV_Span_init dc_Span_init pm_Span_init cd_Span_init ct_Span_init : Value}
    {f_with_bit : Addr} {od_with_bit an_with_bit : Option Addr} {sl_with_bit : Array (Option Value)} {oc_with_bit kV_with_bit dc_with_bit pm_with_bit cd_with_bit ct_with_bit : Value}
    {f_exclusive : Addr} {od_exclusive an_exclusive : Option Addr} {sl_exclusive : Array (Option Value)} {oc_exclusive kV_exclusive dc_exclusive pm_exclusive cd_exclusive ct_exclusive : Value}
    {f_Span_reduced_o : Addr} {od_Span_reduced_o an_Span_reduced_o : Option Addr} {sl_Span_reduced_o : Array (Option Value)} {oc_Span_reduced_o kV_Span_reduced_o dc_Span_reduced_o pm_Span_reduced_o cd_Span_reduced_o ct_Span_reduced_o : Value}
    {f_Span_add : Addr} {od_Span_add an_Span_add : Option Addr} {sl_Span_add : Array (Option Value)} {oc_Span_add kV_Span_add dc_Span_add pm_Span_add cd_Span_add ct_Span_add : Value}
    {f_byte_bits : Addr} {od_byte_bits an_byte_bits : Option Addr} {sl_byte_bits : Array (Option Value)} {oc_byte_bits kV_byte_bits dc_byte_bits pm_byte_bits cd_byte_bits ct_byte_bits : Value}
    {f_step : Addr} {od_step an_step : Option Addr} {sl_step : Array (Option Value)} {oc_step kV_step dc_step pm_step cd_step ct_step : Value}
    {f_crc : Addr} {od_crc an_crc : Option Addr} {sl_crc : Array (Option Value)} {oc_crc kV_crc dc_crc pm_crc cd_crc ct_crc : Value}
    {f_crc_change : Addr} {od_crc_change an_crc_change : Option Addr} {sl_crc_change : Array (Option Value)} {oc_crc_change kV_crc_change dc_crc_change pm_crc_change cd_crc_change ct_crc_change : Value}
    {f_span_of : Addr} {od_span_of an_span_of : Option Addr} {sl_span_of : Array (Option Value)} {oc_span_of kV_span_of dc_span_of pm_span_of cd_span_of ct_span_of : Value}
    {f_Span_reduced : Addr} {od_Span_reduced an_Span_reduced : Option Addr} {sl_Span_reduced : Array (Option Value)} {oc_Span_reduced kV_Span_reduced dc_Span_reduced pm_Span_reduced cd_Span_reduced ct_Span_reduced : Value}
    {f_demand_unknown : Addr} {od_demand_unknown an_demand_unknown : Option Addr} {sl_demand_unknown : Array (Option Value)} {oc_demand_unknown kV_demand_unknown dc_demand_unknown pm_demand_unknown cd_demand_unknown ct_demand_unknown : Value}
    {f_solution_count : Addr} {od_solution_count an_solution_count : Option Addr} {sl_solution_count : Array (Option Value)} {oc_solution_count kV_solution_count dc_solution_count pm_solution_count cd_solution_count ct_solution_count : Value}
    {f_solution : Addr} {od_solution an_solution : Option Addr} {sl_solution : Array (Option Value)} {oc_solution kV_solution dc_solution pm_solution cd_solution ct_solution : Value}
    {f_law : Addr} {od_law an_law : Option Addr} {sl_law : Array (Option Value)} {oc_law kV_law dc_law pm_law cd_law ct_law : Value}
    {a_BIT_WEIGHTS : Addr} {t0_BIT_WEIGHTS t1_BIT_WEIGHTS t2_BIT_WEIGHTS t3_BIT_WEIGHTS t4_BIT_WEIGHTS t5_BIT_WEIGHTS t6_BIT_WEIGHTS t7_BIT_WEIGHTS : Tok} {od_BIT_WEIGHTS : Option Addr} {n_BIT_WEIGHTS : Nat} {sl_BIT_WEIGHTS : Array (Option Value)}
    {t_CRC_START : Tok}
    {t_CRC_MASK : Tok}
    {t_WORD : Tok}
    {t_TOP : Tok}
    {t_MOST_UNKNOWN : Tok}
    {a_POWERS : Addr} {t0_POWERS t1_POWERS t2_POWERS t3_POWERS t4_POWERS t5_POWERS t6_POWERS t7_POWERS t8_POWERS t9_POWERS t10_POWERS t11_POWERS t12_POWERS t13_POWERS t14_POWERS t15_POWERS t16_POWERS t17_POWERS t18_POWERS t19_POWERS t20_POWERS t21_POWERS t22_POWERS t23_POWERS t24_POWERS : Tok} {od_POWERS : Option Addr} {n_POWERS : Nat} {sl_POWERS : Array (Option Value)}
    {C_InvalidPlan : Addr}
    {C_InvalidUnknowns : Addr}
    {C_Span : Addr}
    (a_InvalidPlan : PySem.W.nsIn K mainGlobals "InvalidPlan" = some (some (.ref C_InvalidPlan)))
    (a_InvalidUnknowns : PySem.W.nsIn K mainGlobals "InvalidUnknowns" = some (some (.ref C_InvalidUnknowns)))
    (a_Span : PySem.W.nsIn K mainGlobals "Span" = some (some (.ref C_Span)))
    (a_z_law_pool : PySem.W.nsIn K mainGlobals "_law_pool" = some (some (.ref f_z_law_pool)))
    (l_z_law_pool : K.lookup f_z_law_pool = some ⟨oc_z_law_pool, od_z_law_pool, .func (PySem.W.fnOf "_law_pool" "_law_pool" (defArgs s_z_law_pool) (defBody s_z_law_pool) (defScope s_z_law_pool) .none kV_z_law_pool dc_z_law_pool pm_z_law_pool an_z_law_pool cd_z_law_pool ct_z_law_pool), sl_z_law_pool⟩)
    (c_z_law_pool : PySem.W.codeIn K cd_z_law_pool "_law_pool" = true)
    (k_z_law_pool : PySem.W.keepIn K (.ref f_z_law_pool) = true)
    (a_z_law_spread : PySem.W.nsIn K mainGlobals "_law_spread" = some (some (.ref f_z_law_spread)))
    (l_z_law_spread : K.lookup f_z_law_spread = some ⟨oc_z_law_spread, od_z_law_spread, .func (PySem.W.fnOf "_law_spread" "_law_spread" (defArgs s_z_law_spread) (defBody s_z_law_spread) (defScope s_z_law_spread) .none kV_z_law_spread dc_z_law_spread pm_z_law_spread an_z_law_spread cd_z_law_spread ct_z_law_spread), sl_z_law_spread⟩)
    (c_z_law_spread : PySem.W.codeIn K cd_z_law_spread "_law_spread" = true)
    (k_z_law_spread : PySem.W.keepIn K (.ref f_z_law_spread) = true)
    (a_z_law_draw : PySem.W.nsIn K mainGlobals "_law_draw" = some (some (.ref f_z_law_draw)))
    (l_z_law_draw : K.lookup f_z_law_draw = some ⟨oc_z_law_draw, od_z_law_draw, .func (PySem.W.fnOf "_law_draw" "_law_draw" (defArgs s_z_law_draw) (defBody s_z_law_draw) (defScope s_z_law_draw) .none kV_z_law_draw dc_z_law_draw pm_z_law_draw an_z_law_draw cd_z_law_draw ct_z_law_draw), sl_z_law_draw⟩)
    (c_z_law_draw : PySem.W.codeIn K cd_z_law_draw "_law_draw" = true)
    (k_z_law_draw : PySem.W.keepIn K (.ref f_z_law_draw) = true)
    (a_z_law_places_in : PySem.W.nsIn K mainGlobals "_law_places_in" = some (some (.ref f_z_law_places_in)))
    (l_z_law_places_in : K.lookup f_z_law_places_in = some ⟨oc_z_law_places_in, od_z_law_places_in, .func (PySem.W.fnOf "_law_places_in" "_law_places_in" (defArgs s_z_law_places_in) (defBody s_z_law_places_in) (defScope s_z_law_places_in) .none kV_z_law_places_in dc_z_law_places_in pm_z_law_places_in an_z_law_places_in cd_z_law_places_in ct_z_law_places_in), sl_z_law_places_in⟩)
    (c_z_law_places_in : PySem.W.codeIn K cd_z_law_places_in "_law_places_in" = true)
    (k_z_law_places_in : PySem.W.keepIn K (.ref f_z_law_places_in) = true)
    (a_z_law_set_bit : PySem.W.nsIn K mainGlobals "_law_set_bit" = some (some (.ref f_z_law_set_bit)))
    (l_z_law_set_bit : K.lookup f_z_law_set_bit = some ⟨oc_z_law_set_bit, od_z_law_set_bit, .func (PySem.W.fnOf "_law_set_bit" "_law_set_bit" (defArgs s_z_law_set_bit) (defBody s_z_law_set_bit) (defScope s_z_law_set_bit) .none kV_z_law_set_bit dc_z_law_set_bit pm_z_law_set_bit an_z_law_set_bit cd_z_law_set_bit ct_z_law_set_bit), sl_z_law_set_bit⟩)
    (c_z_law_set_bit : PySem.W.codeIn K cd_z_law_set_bit "_law_set_bit" = true)
    (k_z_law_set_bit : PySem.W.keepIn K (.ref f_z_law_set_bit) = true)
    (a_z_law_or : PySem.W.nsIn K mainGlobals "_law_or" = some (some (.ref f_z_law_or)))
    (l_z_law_or : K.lookup f_z_law_or = some ⟨oc_z_law_or, od_z_law_or, .func (PySem.W.fnOf "_law_or" "_law_or" (defArgs s_z_law_or) (defBody s_z_law_or) (defScope s_z_law_or) .none kV_z_law_or dc_z_law_or pm_z_law_or an_z_law_or cd_z_law_or ct_z_law_or), sl_z_law_or⟩)
    (c_z_law_or : PySem.W.codeIn K cd_z_law_or "_law_or" = true)
    (k_z_law_or : PySem.W.keepIn K (.ref f_z_law_or) = true)
    (a_z_law_check : PySem.W.nsIn K mainGlobals "_law_check" = some (some (.ref f_z_law_check)))
    (l_z_law_check : K.lookup f_z_law_check = some ⟨oc_z_law_check, od_z_law_check, .func (PySem.W.fnOf "_law_check" "_law_check" (defArgs s_z_law_check) (defBody s_z_law_check) (defScope s_z_law_check) .none kV_z_law_check dc_z_law_check pm_z_law_check an_z_law_check cd_z_law_check ct_z_law_check), sl_z_law_check⟩)
    (c_z_law_check : PySem.W.codeIn K cd_z_law_check "_law_check" = true)
    (k_z_law_check : PySem.W.keepIn K (.ref f_z_law_check) = true)
    (a_z_law_settings : PySem.W.nsIn K mainGlobals "_law_settings" = some (some (.ref f_z_law_settings)))
    (l_z_law_settings : K.lookup f_z_law_settings = some ⟨oc_z_law_settings, od_z_law_settings, .func (PySem.W.fnOf "_law_settings" "_law_settings" (defArgs s_z_law_settings) (defBody s_z_law_settings) (defScope s_z_law_settings) .none kV_z_law_settings dc_z_law_settings pm_z_law_settings an_z_law_settings cd_z_law_settings ct_z_law_settings), sl_z_law_settings⟩)
    (c_z_law_settings : PySem.W.codeIn K cd_z_law_settings "_law_settings" = true)
    (k_z_law_settings : PySem.W.keepIn K (.ref f_z_law_settings) = true)
    (a_z_law_same : PySem.W.nsIn K mainGlobals "_law_same" = some (some (.ref f_z_law_same)))
    (l_z_law_same : K.lookup f_z_law_same = some ⟨oc_z_law_same, od_z_law_same, .func (PySem.W.fnOf "_law_same" "_law_same" (defArgs s_z_law_same) (defBody s_z_law_same) (defScope s_z_law_same) .none kV_z_law_same dc_z_law_same pm_z_law_same an_z_law_same cd_z_law_same ct_z_law_same), sl_z_law_same⟩)
    (c_z_law_same : PySem.W.codeIn K cd_z_law_same "_law_same" = true)
    (k_z_law_same : PySem.W.keepIn K (.ref f_z_law_same) = true)
    (a_Span_init : PySem.W.findIn K (.ref C_Span) "__init__" = some (some (.ref f_Span_init)))
    (i_Span_init : PySem.W.isFn K (.ref f_Span_init) = true)
    (l_Span_init : K.lookup f_Span_init = some ⟨oc_Span_init, od_Span_init, .func (PySem.W.fnOf "__init__" "Span.__init__" (defArgs s_Span_init) (defBody s_Span_init) (defScope s_Span_init) .none kV_Span_init dc_Span_init pm_Span_init an_Span_init cd_Span_init ct_Span_init), sl_Span_init⟩)
    (c_Span_init : PySem.W.codeIn K cd_Span_init "Span.__init__" = true)
    (k_Span_init : PySem.W.keepIn K (.ref f_Span_init) = true)
    (a_with_bit : PySem.W.nsIn K mainGlobals "with_bit" = some (some (.ref f_with_bit)))
    (l_with_bit : K.lookup f_with_bit = some ⟨oc_with_bit, od_with_bit, .func (PySem.W.fnOf "with_bit" "with_bit" (defArgs s_with_bit) (defBody s_with_bit) (defScope s_with_bit) .none kV_with_bit dc_with_bit pm_with_bit an_with_bit cd_with_bit ct_with_bit), sl_with_bit⟩)
    (c_with_bit : PySem.W.codeIn K cd_with_bit "with_bit" = true)
    (k_with_bit : PySem.W.keepIn K (.ref f_with_bit) = true)
    (a_exclusive : PySem.W.nsIn K mainGlobals "exclusive" = some (some (.ref f_exclusive)))
    (l_exclusive : K.lookup f_exclusive = some ⟨oc_exclusive, od_exclusive, .func (PySem.W.fnOf "exclusive" "exclusive" (defArgs s_exclusive) (defBody s_exclusive) (defScope s_exclusive) .none kV_exclusive dc_exclusive pm_exclusive an_exclusive cd_exclusive ct_exclusive), sl_exclusive⟩)
    (c_exclusive : PySem.W.codeIn K cd_exclusive "exclusive" = true)
    (k_exclusive : PySem.W.keepIn K (.ref f_exclusive) = true)
    (a_Span_reduced_o : PySem.W.findIn K (.ref C_Span) "reduced" = some (some (.ref f_Span_reduced_o)))
    (i_Span_reduced_o : PySem.W.isFn K (.ref f_Span_reduced_o) = true)
    (l_Span_reduced_o : K.lookup f_Span_reduced_o = some ⟨oc_Span_reduced_o, od_Span_reduced_o, .func (PySem.W.fnOf "reduced" "Span.reduced" (defArgs s_Span_reduced_o) (defBody s_Span_reduced_o) (defScope s_Span_reduced_o) .none kV_Span_reduced_o dc_Span_reduced_o pm_Span_reduced_o an_Span_reduced_o cd_Span_reduced_o ct_Span_reduced_o), sl_Span_reduced_o⟩)
    (c_Span_reduced_o : PySem.W.codeIn K cd_Span_reduced_o "Span.reduced" = true)
    (k_Span_reduced_o : PySem.W.keepIn K (.ref f_Span_reduced_o) = true)
    (a_Span_add : PySem.W.findIn K (.ref C_Span) "add" = some (some (.ref f_Span_add)))
    (i_Span_add : PySem.W.isFn K (.ref f_Span_add) = true)
    (l_Span_add : K.lookup f_Span_add = some ⟨oc_Span_add, od_Span_add, .func (PySem.W.fnOf "add" "Span.add" (defArgs s_Span_add) (defBody s_Span_add) (defScope s_Span_add) .none kV_Span_add dc_Span_add pm_Span_add an_Span_add cd_Span_add ct_Span_add), sl_Span_add⟩)
    (c_Span_add : PySem.W.codeIn K cd_Span_add "Span.add" = true)
    (k_Span_add : PySem.W.keepIn K (.ref f_Span_add) = true)
    (a_byte_bits : PySem.W.nsIn K mainGlobals "byte_bits" = some (some (.ref f_byte_bits)))
    (l_byte_bits : K.lookup f_byte_bits = some ⟨oc_byte_bits, od_byte_bits, .func (PySem.W.fnOf "byte_bits" "byte_bits" (defArgs s_byte_bits) (defBody s_byte_bits) (defScope s_byte_bits) .none kV_byte_bits dc_byte_bits pm_byte_bits an_byte_bits cd_byte_bits ct_byte_bits), sl_byte_bits⟩)
    (c_byte_bits : PySem.W.codeIn K cd_byte_bits "byte_bits" = true)
    (k_byte_bits : PySem.W.keepIn K (.ref f_byte_bits) = true)
    (a_step : PySem.W.nsIn K mainGlobals "step" = some (some (.ref f_step)))
    (l_step : K.lookup f_step = some ⟨oc_step, od_step, .func (PySem.W.fnOf "step" "step" (defArgs s_step) (defBody s_step) (defScope s_step) .none kV_step dc_step pm_step an_step cd_step ct_step), sl_step⟩)
    (c_step : PySem.W.codeIn K cd_step "step" = true)
    (k_step : PySem.W.keepIn K (.ref f_step) = true)
    (a_crc : PySem.W.nsIn K mainGlobals "crc" = some (some (.ref f_crc)))
    (l_crc : K.lookup f_crc = some ⟨oc_crc, od_crc, .func (PySem.W.fnOf "crc" "crc" (defArgs s_crc) (defBody s_crc) (defScope s_crc) .none kV_crc dc_crc pm_crc an_crc cd_crc ct_crc), sl_crc⟩)
    (c_crc : PySem.W.codeIn K cd_crc "crc" = true)
    (k_crc : PySem.W.keepIn K (.ref f_crc) = true)
    (a_crc_change : PySem.W.nsIn K mainGlobals "crc_change" = some (some (.ref f_crc_change)))
    (l_crc_change : K.lookup f_crc_change = some ⟨oc_crc_change, od_crc_change, .func (PySem.W.fnOf "crc_change" "crc_change" (defArgs s_crc_change) (defBody s_crc_change) (defScope s_crc_change) .none kV_crc_change dc_crc_change pm_crc_change an_crc_change cd_crc_change ct_crc_change), sl_crc_change⟩)
    (c_crc_change : PySem.W.codeIn K cd_crc_change "crc_change" = true)
    (k_crc_change : PySem.W.keepIn K (.ref f_crc_change) = true)
    (a_span_of : PySem.W.nsIn K mainGlobals "span_of" = some (some (.ref f_span_of)))
    (l_span_of : K.lookup f_span_of = some ⟨oc_span_of, od_span_of, .func (PySem.W.fnOf "span_of" "span_of" (defArgs s_span_of) (defBody s_span_of) (defScope s_span_of) .none kV_span_of dc_span_of pm_span_of an_span_of cd_span_of ct_span_of), sl_span_of⟩)
    (c_span_of : PySem.W.codeIn K cd_span_of "span_of" = true)
    (k_span_of : PySem.W.keepIn K (.ref f_span_of) = true)
    (a_Span_reduced : PySem.W.findIn K (.ref C_Span) "reduced" = some (some (.ref f_Span_reduced)))
    (i_Span_reduced : PySem.W.isFn K (.ref f_Span_reduced) = true)
    (l_Span_reduced : K.lookup f_Span_reduced = some ⟨oc_Span_reduced, od_Span_reduced, .func (PySem.W.fnOf "reduced" "Span.reduced" (defArgs s_Span_reduced) (defBody s_Span_reduced) (defScope s_Span_reduced) .none kV_Span_reduced dc_Span_reduced pm_Span_reduced an_Span_reduced cd_Span_reduced ct_Span_reduced), sl_Span_reduced⟩)
    (c_Span_reduced : PySem.W.codeIn K cd_Span_reduced "Span.reduced" = true)
    (k_Span_reduced : PySem.W.keepIn K (.ref f_Span_reduced) = true)
    (a_demand_unknown : PySem.W.nsIn K mainGlobals "demand_unknown" = some (some (.ref f_demand_unknown)))
    (l_demand_unknown : K.lookup f_demand_unknown = some ⟨oc_demand_unknown, od_demand_unknown, .func (PySem.W.fnOf "demand_unknown" "demand_unknown" (defArgs s_demand_unknown) (defBody s_demand_unknown) (defScope s_demand_unknown) .none kV_demand_unknown dc_demand_unknown pm_demand_unknown an_demand_unknown cd_demand_unknown ct_demand_unknown), sl_demand_unknown⟩)
    (c_demand_unknown : PySem.W.codeIn K cd_demand_unknown "demand_unknown" = true)
    (k_demand_unknown : PySem.W.keepIn K (.ref f_demand_unknown) = true)
    (a_solution_count : PySem.W.nsIn K mainGlobals "solution_count" = some (some (.ref f_solution_count)))
    (l_solution_count : K.lookup f_solution_count = some ⟨oc_solution_count, od_solution_count, .func (PySem.W.fnOf "solution_count" "solution_count" (defArgs s_solution_count) (defBody s_solution_count) (defScope s_solution_count) .none kV_solution_count dc_solution_count pm_solution_count an_solution_count cd_solution_count ct_solution_count), sl_solution_count⟩)
    (c_solution_count : PySem.W.codeIn K cd_solution_count "solution_count" = true)
    (k_solution_count : PySem.W.keepIn K (.ref f_solution_count) = true)
    (a_solution : PySem.W.nsIn K mainGlobals "solution" = some (some (.ref f_solution)))
    (l_solution : K.lookup f_solution = some ⟨oc_solution, od_solution, .func (PySem.W.fnOf "solution" "solution" (defArgs s_solution) (defBody s_solution) (defScope s_solution) .none kV_solution dc_solution pm_solution an_solution cd_solution ct_solution), sl_solution⟩)
    (c_solution : PySem.W.codeIn K cd_solution "solution" = true)
    (k_solution : PySem.W.keepIn K (.ref f_solution) = true)
    (a_law : PySem.W.nsIn K mainGlobals "law" = some (some (.ref f_law)))
    (l_law : K.lookup f_law = some ⟨oc_law, od_law, .func (PySem.W.fnOf "law" "law" (defArgs s_law) (defBody s_law) (defScope s_law) .none kV_law dc_law pm_law an_law cd_law ct_law), sl_law⟩)
    (c_law : PySem.W.codeIn K cd_law "law" = true)
    (k_law : PySem.W.keepIn K (.ref f_law) = true)
    (z_all : PySem.W.nsIn K mainGlobals "all" = some none)
    (z_bool : PySem.W.nsIn K mainGlobals "bool" = some none)
    (z_int : PySem.W.nsIn K mainGlobals "int" = some none)
    (z_isinstance : PySem.W.nsIn K mainGlobals "isinstance" = some none)
    (z_len : PySem.W.nsIn K mainGlobals "len" = some none)
    (z_list : PySem.W.nsIn K mainGlobals "list" = some none)
    (z_max : PySem.W.nsIn K mainGlobals "max" = some none)
    (z_range : PySem.W.nsIn K mainGlobals "range" = some none)
    (z_sorted : PySem.W.nsIn K mainGlobals "sorted" = some none)
    (z_str : PySem.W.nsIn K mainGlobals "str" = some none)
    (z_tuple : PySem.W.nsIn K mainGlobals "tuple" = some none)
    (ns_BIT_WEIGHTS : PySem.W.nsIn K mainGlobals "BIT_WEIGHTS" = some (some (.ref a_BIT_WEIGHTS)))
    (l_BIT_WEIGHTS : K.lookup a_BIT_WEIGHTS = some ⟨.type "tuple", od_BIT_WEIGHTS, .seq #[.int 128 t0_BIT_WEIGHTS, .int 64 t1_BIT_WEIGHTS, .int 32 t2_BIT_WEIGHTS, .int 16 t3_BIT_WEIGHTS, .int 8 t4_BIT_WEIGHTS, .int 4 t5_BIT_WEIGHTS, .int 2 t6_BIT_WEIGHTS, .int 1 t7_BIT_WEIGHTS] n_BIT_WEIGHTS, sl_BIT_WEIGHTS⟩)
    (a_CRC_START : PySem.W.nsIn K mainGlobals "CRC_START" = some (some (.int (65535) t_CRC_START)))
    (a_CRC_MASK : PySem.W.nsIn K mainGlobals "CRC_MASK" = some (some (.int (4129) t_CRC_MASK)))
    (a_WORD : PySem.W.nsIn K mainGlobals "WORD" = some (some (.int (65536) t_WORD)))
    (a_TOP : PySem.W.nsIn K mainGlobals "TOP" = some (some (.int (32768) t_TOP)))
    (a_MOST_UNKNOWN : PySem.W.nsIn K mainGlobals "MOST_UNKNOWN" = some (some (.int (24) t_MOST_UNKNOWN)))
    (ns_POWERS : PySem.W.nsIn K mainGlobals "POWERS" = some (some (.ref a_POWERS)))
    (l_POWERS : K.lookup a_POWERS = some ⟨.type "tuple", od_POWERS, .seq #[.int 1 t0_POWERS, .int 2 t1_POWERS, .int 4 t2_POWERS, .int 8 t3_POWERS, .int 16 t4_POWERS, .int 32 t5_POWERS, .int 64 t6_POWERS, .int 128 t7_POWERS, .int 256 t8_POWERS, .int 512 t9_POWERS, .int 1024 t10_POWERS, .int 2048 t11_POWERS, .int 4096 t12_POWERS, .int 8192 t13_POWERS, .int 16384 t14_POWERS, .int 32768 t15_POWERS, .int 65536 t16_POWERS, .int 131072 t17_POWERS, .int 262144 t18_POWERS, .int 524288 t19_POWERS, .int 1048576 t20_POWERS, .int 2097152 t21_POWERS, .int 4194304 t22_POWERS, .int 8388608 t23_POWERS, .int 16777216 t24_POWERS] n_POWERS, sl_POWERS⟩)
    (k_InvalidPlan : PySem.W.keepIn K (.ref C_InvalidPlan) = true)
    (xb_InvalidPlan : PySem.W.subIn K (.ref C_InvalidPlan) (.type "BaseException") = some true)
    (xt_InvalidPlan : PySem.W.typeIn K (.ref C_InvalidPlan) = some (.type "type"))
    (xd_InvalidPlan : PySem.W.hasDictIn K C_InvalidPlan = true)
    (x_InvalidUnknowns : PySem.W.excIn K C_InvalidUnknowns [.type "ValueError", .type "Exception", .type "BaseException", .type "object"] "ValueError.__new__" = true)
    (k_InvalidUnknowns : PySem.W.keepIn K (.ref C_InvalidUnknowns) = true)
    (xb_InvalidUnknowns : PySem.W.subIn K (.ref C_InvalidUnknowns) (.type "BaseException") = some true)
    (xt_InvalidUnknowns : PySem.W.typeIn K (.ref C_InvalidUnknowns) = some (.type "type"))
    (xd_InvalidUnknowns : PySem.W.hasDictIn K C_InvalidUnknowns = true)
    (su_InvalidPlan_InvalidUnknowns : PySem.W.subIn K (.ref C_InvalidPlan) (.ref C_InvalidUnknowns) = some false)
    (su_InvalidUnknowns_InvalidUnknowns : PySem.W.subIn K (.ref C_InvalidUnknowns) (.ref C_InvalidUnknowns) = some true)
    (su_Span_InvalidUnknowns : PySem.W.subIn K (.ref C_Span) (.ref C_InvalidUnknowns) = some false)
    (e1_InvalidUnknowns : PySem.W.findIn K (.ref C_InvalidUnknowns) "__getattribute__" = some (some (.builtin "BaseException.__getattribute__")))
    (e2_InvalidUnknowns : PySem.W.findIn K (.ref C_InvalidUnknowns) "__getattr__" = some none)
    (e3_InvalidUnknowns : PySem.W.findIn K (.ref C_InvalidUnknowns) "__class__" = some (some (.builtin "object.__class__")))
    (e4_InvalidUnknowns : PySem.W.specialIn K (.builtin "object.__class__") "__get__" = some (some (.builtin "getset_descriptor.__get__")))
    (e5_InvalidUnknowns : PySem.W.takesIn K (.builtin "object.__class__") = some true)
    (e6_InvalidUnknowns : PySem.W.mroIn K C_InvalidUnknowns (.type "object") = some true)
    (kt_InvalidUnknowns_InvalidPlan : PySem.W.kitOne K (.ref C_InvalidUnknowns) (.ref C_InvalidPlan) = some false)
    (pg_Span : PySem.W.plainGet K C_Span Str.empty = true)
    (hd_Span : PySem.W.hasDictIn K C_Span = true)
    (po_Span : PySem.W.plainOver K C_Span = true)
    (sa_Span : PySem.W.findIn K (.ref C_Span) "__setattr__" = some (some (.builtin "object.__setattr__")))
    (mk_Span : PySem.W.makesIn K C_Span = true)
    (kc_Span : PySem.W.keepIn K (.ref C_Span) = true)
    (na_Span_kept : PySem.W.findIn K (.ref C_Span) "kept" = some none) :
    ∃ fd : FuncData, (∀ (s : Shared) (v : Value), BindsTo s fd ⟨[v], []⟩ [("_law_script", v)]) ∧ ∀ base : Heap, K.In base → base.Ns mainGlobals mg → FnOk l.prog w K mg base (L2.CX l.prog w) 9 fa fd ["_law_script"] (sp_law K) := by
  have e := hfa.symm.trans (PySem.W.mg_of X G a_law)
  cases e
  have T : Txt K mg (Ad.mk f_z_law_pool (PySem.W.fnOf "_law_pool" "_law_pool" (defArgs s_z_law_pool) (defBody s_z_law_pool) (defScope s_z_law_pool) .none kV_z_law_pool dc_z_law_pool pm_z_law_pool an_z_law_pool cd_z_law_pool ct_z_law_pool) f_z_law_spread (PySem.W.fnOf "_law_spread" "_law_spread" (defArgs s_z_law_spread) (defBody s_z_law_spread) (defScope s_z_law_spread) .none kV_z_law_spread dc_z_law_spread pm_z_law_spread an_z_law_spread cd_z_law_spread ct_z_law_spread) f_z_law_draw (PySem.W.fnOf "_law_draw" "_law_draw" (defArgs s_z_law_draw) (defBody s_z_law_draw) (defScope s_z_law_draw) .none kV_z_law_draw dc_z_law_draw pm_z_law_draw an_z_law_draw cd_z_law_draw ct_z_law_draw) f_z_law_places_in (PySem.W.fnOf "_law_places_in" "_law_places_in" (defArgs s_z_law_places_in) (defBody s_z_law_places_in) (defScope s_z_law_places_in) .none kV_z_law_places_in dc_z_law_places_in pm_z_law_places_in an_z_law_places_in cd_z_law_places_in ct_z_law_places_in) f_z_law_set_bit (PySem.W.fnOf "_law_set_bit" "_law_set_bit" (defArgs s_z_law_set_bit) (defBody s_z_law_set_bit) (defScope s_z_law_set_bit) .none kV_z_law_set_bit dc_z_law_set_bit pm_z_law_set_bit an_z_law_set_bit cd_z_law_set_bit ct_z_law_set_bit) f_z_law_or (PySem.W.fnOf "_law_or" "_law_or" (defArgs s_z_law_or) (defBody s_z_law_or) (defScope s_z_law_or) .none kV_z_law_or dc_z_law_or pm_z_law_or an_z_law_or cd_z_law_or ct_z_law_or) f_z_law_check (PySem.W.fnOf "_law_check" "_law_check" (defArgs s_z_law_check) (defBody s_z_law_check) (defScope s_z_law_check) .none kV_z_law_check dc_z_law_check pm_z_law_check an_z_law_check cd_z_law_check ct_z_law_check) f_z_law_settings (PySem.W.fnOf "_law_settings" "_law_settings" (defArgs s_z_law_settings) (defBody s_z_law_settings) (defScope s_z_law_settings) .none kV_z_law_settings dc_z_law_settings pm_z_law_settings an_z_law_settings cd_z_law_settings ct_z_law_settings) f_z_law_same (PySem.W.fnOf "_law_same" "_law_same" (defArgs s_z_law_same) (defBody s_z_law_same) (defScope s_z_law_same) .none kV_z_law_same dc_z_law_same pm_z_law_same an_z_law_same cd_z_law_same ct_z_law_same) f_Span_init (PySem.W.fnOf "__init__" "Span.__init__" (defArgs s_Span_init) (defBody s_Span_init) (defScope s_Span_init) .none kV_Span_init dc_Span_init pm_Span_init an_Span_init cd_Span_init ct_Span_init) f_with_bit (PySem.W.fnOf "with_bit" "with_bit" (defArgs s_with_bit) (defBody s_with_bit) (defScope s_with_bit) .none kV_with_bit dc_with_bit pm_with_bit an_with_bit cd_with_bit ct_with_bit) f_exclusive (PySem.W.fnOf "exclusive" "exclusive" (defArgs s_exclusive) (defBody s_exclusive) (defScope s_exclusive) .none kV_exclusive dc_exclusive pm_exclusive an_exclusive cd_exclusive ct_exclusive) f_Span_reduced_o (PySem.W.fnOf "reduced" "Span.reduced" (defArgs s_Span_reduced_o) (defBody s_Span_reduced_o) (defScope s_Span_reduced_o) .none kV_Span_reduced_o dc_Span_reduced_o pm_Span_reduced_o an_Span_reduced_o cd_Span_reduced_o ct_Span_reduced_o) f_Span_add (PySem.W.fnOf "add" "Span.add" (defArgs s_Span_add) (defBody s_Span_add) (defScope s_Span_add) .none kV_Span_add dc_Span_add pm_Span_add an_Span_add cd_Span_add ct_Span_add) f_byte_bits (PySem.W.fnOf "byte_bits" "byte_bits" (defArgs s_byte_bits) (defBody s_byte_bits) (defScope s_byte_bits) .none kV_byte_bits dc_byte_bits pm_byte_bits an_byte_bits cd_byte_bits ct_byte_bits) f_step (PySem.W.fnOf "step" "step" (defArgs s_step) (defBody s_step) (defScope s_step) .none kV_step dc_step pm_step an_step cd_step ct_step) f_crc (PySem.W.fnOf "crc" "crc" (defArgs s_crc) (defBody s_crc) (defScope s_crc) .none kV_crc dc_crc pm_crc an_crc cd_crc ct_crc) f_crc_change (PySem.W.fnOf "crc_change" "crc_change" (defArgs s_crc_change) (defBody s_crc_change) (defScope s_crc_change) .none kV_crc_change dc_crc_change pm_crc_change an_crc_change cd_crc_change ct_crc_change) f_span_of (PySem.W.fnOf "span_of" "span_of" (defArgs s_span_of) (defBody s_span_of) (defScope s_span_of) .none kV_span_of dc_span_of pm_span_of an_span_of cd_span_of ct_span_of) f_Span_reduced (PySem.W.fnOf "reduced" "Span.reduced" (defArgs s_Span_reduced) (defBody s_Span_reduced) (defScope s_Span_reduced) .none kV_Span_reduced dc_Span_reduced pm_Span_reduced an_Span_reduced cd_Span_reduced ct_Span_reduced) f_demand_unknown (PySem.W.fnOf "demand_unknown" "demand_unknown" (defArgs s_demand_unknown) (defBody s_demand_unknown) (defScope s_demand_unknown) .none kV_demand_unknown dc_demand_unknown pm_demand_unknown an_demand_unknown cd_demand_unknown ct_demand_unknown) f_solution_count (PySem.W.fnOf "solution_count" "solution_count" (defArgs s_solution_count) (defBody s_solution_count) (defScope s_solution_count) .none kV_solution_count dc_solution_count pm_solution_count an_solution_count cd_solution_count ct_solution_count) f_solution (PySem.W.fnOf "solution" "solution" (defArgs s_solution) (defBody s_solution) (defScope s_solution) .none kV_solution dc_solution pm_solution an_solution cd_solution ct_solution) fa (PySem.W.fnOf "law" "law" (defArgs s_law) (defBody s_law) (defScope s_law) .none kV_law dc_law pm_law an_law cd_law ct_law) a_BIT_WEIGHTS t_CRC_START t_CRC_MASK t_WORD t_TOP t_MOST_UNKNOWN a_POWERS C_InvalidPlan C_InvalidUnknowns C_Span) := {
    F_z_law_pool := fun_mk (st := s_z_law_pool) l_z_law_pool c_z_law_pool k_z_law_pool,
    g_z_law_pool := PySem.W.mg_of X G a_z_law_pool,
    b_z_law_pool := (fun_mk (st := s_z_law_pool) l_z_law_pool c_z_law_pool k_z_law_pool).binds (ps := ["_law_script"]) fun _ _ _ _ _ _ us hl => match us, hl with | [_], _ => rfl,
    F_z_law_spread := fun_mk (st := s_z_law_spread) l_z_law_spread c_z_law_spread k_z_law_spread,
    g_z_law_spread := PySem.W.mg_of X G a_z_law_spread,
    b_z_law_spread := (fun_mk (st := s_z_law_spread) l_z_law_spread c_z_law_spread k_z_law_spread).binds (ps := ["_law_cell"]) fun _ _ _ _ _ _ us hl => match us, hl with | [_], _ => rfl,
    F_z_law_draw := fun_mk (st := s_z_law_draw) l_z_law_draw c_z_law_draw k_z_law_draw,
    g_z_law_draw := PySem.W.mg_of X G a_z_law_draw,
    b_z_law_draw := (fun_mk (st := s_z_law_draw) l_z_law_draw c_z_law_draw k_z_law_draw).binds (ps := ["_law_pool_here", "_law_many"]) fun _ _ _ _ _ _ us hl => match us, hl with | [_, _], _ => rfl,
    F_z_law_places_in := fun_mk (st := s_z_law_places_in) l_z_law_places_in c_z_law_places_in k_z_law_places_in,
    g_z_law_places_in := PySem.W.mg_of X G a_z_law_places_in,
    b_z_law_places_in := (fun_mk (st := s_z_law_places_in) l_z_law_places_in c_z_law_places_in k_z_law_places_in).binds (ps := ["_law_pool_here", "_law_many", "_law_size"]) fun _ _ _ _ _ _ us hl => match us, hl with | [_, _, _], _ => rfl,
    F_z_law_set_bit := fun_mk (st := s_z_law_set_bit) l_z_law_set_bit c_z_law_set_bit k_z_law_set_bit,
    g_z_law_set_bit := PySem.W.mg_of X G a_z_law_set_bit,
    b_z_law_set_bit := (fun_mk (st := s_z_law_set_bit) l_z_law_set_bit c_z_law_set_bit k_z_law_set_bit).binds (ps := ["_law_values", "_law_place", "_law_bit"]) fun _ _ _ _ _ _ us hl => match us, hl with | [_, _, _], _ => rfl,
    F_z_law_or := fun_mk (st := s_z_law_or) l_z_law_or c_z_law_or k_z_law_or,
    g_z_law_or := PySem.W.mg_of X G a_z_law_or,
    b_z_law_or := (fun_mk (st := s_z_law_or) l_z_law_or c_z_law_or k_z_law_or).binds (ps := ["_law_a", "_law_b"]) fun _ _ _ _ _ _ us hl => match us, hl with | [_, _], _ => rfl,
    F_z_law_check := fun_mk (st := s_z_law_check) l_z_law_check c_z_law_check k_z_law_check,
    g_z_law_check := PySem.W.mg_of X G a_z_law_check,
    b_z_law_check := (fun_mk (st := s_z_law_check) l_z_law_check c_z_law_check k_z_law_check).binds (ps := ["_law_values"]) fun _ _ _ _ _ _ us hl => match us, hl with | [_], _ => rfl,
    F_z_law_settings := fun_mk (st := s_z_law_settings) l_z_law_settings c_z_law_settings k_z_law_settings,
    g_z_law_settings := PySem.W.mg_of X G a_z_law_settings,
    b_z_law_settings := (fun_mk (st := s_z_law_settings) l_z_law_settings c_z_law_settings k_z_law_settings).binds (ps := ["_law_values", "_law_places"]) fun _ _ _ _ _ _ us hl => match us, hl with | [_, _], _ => rfl,
    F_z_law_same := fun_mk (st := s_z_law_same) l_z_law_same c_z_law_same k_z_law_same,
    g_z_law_same := PySem.W.mg_of X G a_z_law_same,
    b_z_law_same := (fun_mk (st := s_z_law_same) l_z_law_same c_z_law_same k_z_law_same).binds (ps := ["_law_actual", "_law_due"]) fun _ _ _ _ _ _ us hl => match us, hl with | [_, _], _ => rfl,
    F_Span_init := fun_mk (st := s_Span_init) l_Span_init c_Span_init k_Span_init,
    b_Span_init := (fun_mk (st := s_Span_init) l_Span_init c_Span_init k_Span_init).binds (ps := ["self"]) fun _ _ _ _ _ _ us hl => match us, hl with | [_], _ => rfl,
    F_with_bit := fun_mk (st := s_with_bit) l_with_bit c_with_bit k_with_bit,
    g_with_bit := PySem.W.mg_of X G a_with_bit,
    b_with_bit := (fun_mk (st := s_with_bit) l_with_bit c_with_bit k_with_bit).binds (ps := ["values", "place", "bit"]) fun _ _ _ _ _ _ us hl => match us, hl with | [_, _, _], _ => rfl,
    F_exclusive := fun_mk (st := s_exclusive) l_exclusive c_exclusive k_exclusive,
    g_exclusive := PySem.W.mg_of X G a_exclusive,
    b_exclusive := (fun_mk (st := s_exclusive) l_exclusive c_exclusive k_exclusive).binds (ps := ["first", "second"]) fun _ _ _ _ _ _ us hl => match us, hl with | [_, _], _ => rfl,
    F_Span_reduced_o := fun_mk (st := s_Span_reduced_o) l_Span_reduced_o c_Span_reduced_o k_Span_reduced_o,
    m_Span_reduced_o := ⟨a_Span_reduced_o, i_Span_reduced_o, k_Span_reduced_o⟩,
    b_Span_reduced_o := (fun_mk (st := s_Span_reduced_o) l_Span_reduced_o c_Span_reduced_o k_Span_reduced_o).binds (ps := ["self", "number", "places"]) fun _ _ _ _ _ _ us hl => match us, hl with | [_, _, _], _ => rfl,
    F_Span_add := fun_mk (st := s_Span_add) l_Span_add c_Span_add k_Span_add,
    m_Span_add := ⟨a_Span_add, i_Span_add, k_Span_add⟩,
    b_Span_add := (fun_mk (st := s_Span_add) l_Span_add c_Span_add k_Span_add).binds (ps := ["self", "number", "place"]) fun _ _ _ _ _ _ us hl => match us, hl with | [_, _, _], _ => rfl,
    F_byte_bits := fun_mk (st := s_byte_bits) l_byte_bits c_byte_bits k_byte_bits,
    g_byte_bits := PySem.W.mg_of X G a_byte_bits,
    b_byte_bits := (fun_mk (st := s_byte_bits) l_byte_bits c_byte_bits k_byte_bits).binds (ps := ["value"]) fun _ _ _ _ _ _ us hl => match us, hl with | [_], _ => rfl,
    F_step := fun_mk (st := s_step) l_step c_step k_step,
    g_step := PySem.W.mg_of X G a_step,
    b_step := (fun_mk (st := s_step) l_step c_step k_step).binds (ps := ["number", "value"]) fun _ _ _ _ _ _ us hl => match us, hl with | [_, _], _ => rfl,
    F_crc := fun_mk (st := s_crc) l_crc c_crc k_crc,
    g_crc := PySem.W.mg_of X G a_crc,
    b_crc := (fun_mk (st := s_crc) l_crc c_crc k_crc).binds (ps := ["values"]) fun _ _ _ _ _ _ us hl => match us, hl with | [_], _ => rfl,
    F_crc_change := fun_mk (st := s_crc_change) l_crc_change c_crc_change k_crc_change,
    g_crc_change := PySem.W.mg_of X G a_crc_change,
    b_crc_change := (fun_mk (st := s_crc_change) l_crc_change c_crc_change k_crc_change).binds (ps := ["length", "place"]) fun _ _ _ _ _ _ us hl => match us, hl with | [_, _], _ => rfl,
    F_span_of := fun_mk (st := s_span_of) l_span_of c_span_of k_span_of,
    g_span_of := PySem.W.mg_of X G a_span_of,
    b_span_of := (fun_mk (st := s_span_of) l_span_of c_span_of k_span_of).binds (ps := ["values", "unknown"]) fun _ _ _ _ _ _ us hl => match us, hl with | [_, _], _ => rfl,
    F_Span_reduced := fun_mk (st := s_Span_reduced) l_Span_reduced c_Span_reduced k_Span_reduced,
    m_Span_reduced := ⟨a_Span_reduced, i_Span_reduced, k_Span_reduced⟩,
    b_Span_reduced := (fun_mk (st := s_Span_reduced) l_Span_reduced c_Span_reduced k_Span_reduced).binds (ps := ["self", "number", "places"]) fun _ _ _ _ _ _ us hl => match us, hl with | [_, _, _], _ => rfl,
    F_demand_unknown := fun_mk (st := s_demand_unknown) l_demand_unknown c_demand_unknown k_demand_unknown,
    g_demand_unknown := PySem.W.mg_of X G a_demand_unknown,
    b_demand_unknown := (fun_mk (st := s_demand_unknown) l_demand_unknown c_demand_unknown k_demand_unknown).binds (ps := ["values", "unknown"]) fun _ _ _ _ _ _ us hl => match us, hl with | [_, _], _ => rfl,
    F_solution_count := fun_mk (st := s_solution_count) l_solution_count c_solution_count k_solution_count,
    g_solution_count := PySem.W.mg_of X G a_solution_count,
    b_solution_count := (fun_mk (st := s_solution_count) l_solution_count c_solution_count k_solution_count).binds (ps := ["values", "unknown", "wanted"]) fun _ _ _ _ _ _ us hl => match us, hl with | [_, _, _], _ => rfl,
    F_solution := fun_mk (st := s_solution) l_solution c_solution k_solution,
    g_solution := PySem.W.mg_of X G a_solution,
    b_solution := (fun_mk (st := s_solution) l_solution c_solution k_solution).binds (ps := ["values", "unknown", "wanted"]) fun _ _ _ _ _ _ us hl => match us, hl with | [_, _, _], _ => rfl,
    F_law := fun_mk (st := s_law) l_law c_law k_law,
    g_law := PySem.W.mg_of X G a_law,
    b_law := (fun_mk (st := s_law) l_law c_law k_law).binds (ps := ["_law_script"]) fun _ _ _ _ _ _ us hl => match us, hl with | [_], _ => rfl,
    n_all := PySem.W.mg_none_of X G z_all,
    n_bool := PySem.W.mg_none_of X G z_bool,
    n_int := PySem.W.mg_none_of X G z_int,
    n_isinstance := PySem.W.mg_none_of X G z_isinstance,
    n_len := PySem.W.mg_none_of X G z_len,
    n_list := PySem.W.mg_none_of X G z_list,
    n_max := PySem.W.mg_none_of X G z_max,
    n_range := PySem.W.mg_none_of X G z_range,
    n_sorted := PySem.W.mg_none_of X G z_sorted,
    n_str := PySem.W.mg_none_of X G z_str,
    n_tuple := PySem.W.mg_none_of X G z_tuple,
    g_BIT_WEIGHTS := PySem.W.mg_of X G ns_BIT_WEIGHTS,
    q_BIT_WEIGHTS := fun _ => .inr ⟨_, _, _, l_BIT_WEIGHTS, rfl, rfl, (by show 8 ≤ sizeLine; decide), (.cons ⟨_, rfl⟩ (.cons ⟨_, rfl⟩ (.cons ⟨_, rfl⟩ (.cons ⟨_, rfl⟩ (.cons ⟨_, rfl⟩ (.cons ⟨_, rfl⟩ (.cons ⟨_, rfl⟩ (.cons ⟨_, rfl⟩ .nil))))))))⟩,
    g_CRC_START := PySem.W.mg_of X G a_CRC_START,
    g_CRC_MASK := PySem.W.mg_of X G a_CRC_MASK,
    g_WORD := PySem.W.mg_of X G a_WORD,
    g_TOP := PySem.W.mg_of X G a_TOP,
    g_MOST_UNKNOWN := PySem.W.mg_of X G a_MOST_UNKNOWN,
    g_POWERS := PySem.W.mg_of X G ns_POWERS,
    q_POWERS := fun _ => .inr ⟨_, _, _, l_POWERS, rfl, rfl, (by show 25 ≤ sizeLine; decide), (.cons ⟨_, rfl⟩ (.cons ⟨_, rfl⟩ (.cons ⟨_, rfl⟩ (.cons ⟨_, rfl⟩ (.cons ⟨_, rfl⟩ (.cons ⟨_, rfl⟩ (.cons ⟨_, rfl⟩ (.cons ⟨_, rfl⟩ (.cons ⟨_, rfl⟩ (.cons ⟨_, rfl⟩ (.cons ⟨_, rfl⟩ (.cons ⟨_, rfl⟩ (.cons ⟨_, rfl⟩ (.cons ⟨_, rfl⟩ (.cons ⟨_, rfl⟩ (.cons ⟨_, rfl⟩ (.cons ⟨_, rfl⟩ (.cons ⟨_, rfl⟩ (.cons ⟨_, rfl⟩ (.cons ⟨_, rfl⟩ (.cons ⟨_, rfl⟩ (.cons ⟨_, rfl⟩ (.cons ⟨_, rfl⟩ (.cons ⟨_, rfl⟩ (.cons ⟨_, rfl⟩ .nil)))))))))))))))))))))))))⟩,
    g_InvalidPlan := PySem.W.mg_of X G a_InvalidPlan,
    k_InvalidPlan := k_InvalidPlan,
    xb_InvalidPlan := xb_InvalidPlan,
    xt_InvalidPlan := xt_InvalidPlan,
    xd_InvalidPlan := xd_InvalidPlan,
    g_InvalidUnknowns := PySem.W.mg_of X G a_InvalidUnknowns,
    x_InvalidUnknowns := x_InvalidUnknowns,
    k_InvalidUnknowns := k_InvalidUnknowns,
    xb_InvalidUnknowns := xb_InvalidUnknowns,
    xt_InvalidUnknowns := xt_InvalidUnknowns,
    xd_InvalidUnknowns := xd_InvalidUnknowns,
    exm_InvalidPlan_InvalidUnknowns := PySem.W.exm_ref xb_InvalidUnknowns xd_InvalidUnknowns xt_InvalidUnknowns su_InvalidPlan_InvalidUnknowns,
    exm_InvalidUnknowns_InvalidUnknowns := PySem.W.exm_ref xb_InvalidUnknowns xd_InvalidUnknowns xt_InvalidUnknowns su_InvalidUnknowns_InvalidUnknowns,
    exm_Span_InvalidUnknowns := PySem.W.exm_ref xb_InvalidUnknowns xd_InvalidUnknowns xt_InvalidUnknowns su_Span_InvalidUnknowns,
    ec_InvalidUnknowns := ⟨e1_InvalidUnknowns, e2_InvalidUnknowns, xb_InvalidUnknowns, xd_InvalidUnknowns, e3_InvalidUnknowns, e4_InvalidUnknowns, e5_InvalidUnknowns, e6_InvalidUnknowns⟩,
    kit_InvalidUnknowns_InvalidPlan := kt_InvalidUnknowns_InvalidPlan,
    c_Span := ⟨pg_Span, hd_Span, po_Span, sa_Span⟩,
    g_Span := PySem.W.mg_of X G a_Span,
    na_Span_kept := na_Span_kept,
    M_Span := ⟨mk_Span, a_Span_init, i_Span_init, kc_Span⟩ }
  exact ⟨_, fun s v => .of_eq rfl, fun base _ _ => (ok_law T).imp (law_sp rfl law_true rfl)⟩
end Pf
open PySem PySem.W PyProof.Rows
set_option maxRecDepth 100000 in
set_option maxHeartbeats 0 in
theorem PySem.Challenge.cw_discwright_k57_unknown_bits_solved_holds : PySem.Challenge.rw_discwright_k57_unknown_bits_solved.Holds := by
  w_on; o_law; k_head; (case hw => w_witness2)
  k_fill
  refine L2.walk_of (l := PySem.Challenge.rw_discwright_k57_unknown_bits_solved) (n := 63) (k := 9) (x := "_law_script") (CX := fun w => L2.CX PySem.Challenge.rw_discwright_k57_unknown_bits_solved.prog w) (sp := fun w => Pf.sp_law _) rfl (by decide) rfl ⟨rfl, by decide, by decide⟩ (fun w h Y => PySem.W.kIn_of Y) ?F (fun _ _ a ns hl _ hS => ⟨a, ns, rfl, hS, hl, fun _ => rfl⟩) (fun _ => Pf.cx_no)
  case F =>
    intro w mg fa h KX G hmg
    refine' Pf.all_mk KX G hmg ?a_InvalidPlan ?a_InvalidUnknowns ?a_Span ?a_z_law_pool ?l_z_law_pool ?c_z_law_pool ?k_z_law_pool ?a_z_law_spread ?l_z_law_spread ?c_z_law_spread ?k_z_law_spread ?a_z_law_draw ?l_z_law_draw ?c_z_law_draw ?k_z_law_draw ?a_z_law_places_in ?l_z_law_places_in ?c_z_law_places_in ?k_z_law_places_in ?a_z_law_set_bit ?l_z_law_set_bit ?c_z_law_set_bit ?k_z_law_set_bit ?a_z_law_or ?l_z_law_or ?c_z_law_or ?k_z_law_or ?a_z_law_check ?l_z_law_check ?c_z_law_check ?k_z_law_check ?a_z_law_settings ?l_z_law_settings ?c_z_law_settings ?k_z_law_settings ?a_z_law_same ?l_z_law_same ?c_z_law_same ?k_z_law_same ?a_Span_init ?i_Span_init ?l_Span_init ?c_Span_init ?k_Span_init ?a_with_bit ?l_with_bit ?c_with_bit ?k_with_bit ?a_exclusive ?l_exclusive ?c_exclusive ?k_exclusive ?a_Span_reduced_o ?i_Span_reduced_o ?l_Span_reduced_o ?c_Span_reduced_o ?k_Span_reduced_o ?a_Span_add ?i_Span_add ?l_Span_add ?c_Span_add ?k_Span_add ?a_byte_bits ?l_byte_bits ?c_byte_bits ?k_byte_bits ?a_step ?l_step ?c_step ?k_step ?a_crc ?l_crc ?c_crc ?k_crc ?a_crc_change ?l_crc_change ?c_crc_change ?k_crc_change ?a_span_of ?l_span_of ?c_span_of ?k_span_of ?a_Span_reduced ?i_Span_reduced ?l_Span_reduced ?c_Span_reduced ?k_Span_reduced ?a_demand_unknown ?l_demand_unknown ?c_demand_unknown ?k_demand_unknown ?a_solution_count ?l_solution_count ?c_solution_count ?k_solution_count ?a_solution ?l_solution ?c_solution ?k_solution ?a_law ?l_law ?c_law ?k_law ?z_all ?z_bool ?z_int ?z_isinstance ?z_len ?z_list ?z_max ?z_range ?z_sorted ?z_str ?z_tuple ?ns_BIT_WEIGHTS ?l_BIT_WEIGHTS ?a_CRC_START ?a_CRC_MASK ?a_WORD ?a_TOP ?a_MOST_UNKNOWN ?ns_POWERS ?l_POWERS ?k_InvalidPlan ?xb_InvalidPlan ?xt_InvalidPlan ?xd_InvalidPlan ?x_InvalidUnknowns ?k_InvalidUnknowns ?xb_InvalidUnknowns ?xt_InvalidUnknowns ?xd_InvalidUnknowns ?su_InvalidPlan_InvalidUnknowns ?su_InvalidUnknowns_InvalidUnknowns ?su_Span_InvalidUnknowns ?e1_InvalidUnknowns ?e2_InvalidUnknowns ?e3_InvalidUnknowns ?e4_InvalidUnknowns ?e5_InvalidUnknowns ?e6_InvalidUnknowns ?kt_InvalidUnknowns_InvalidPlan ?pg_Span ?hd_Span ?po_Span ?sa_Span ?mk_Span ?kc_Span ?na_Span_kept
    (case a_InvalidPlan => k_is); (case a_InvalidUnknowns => k_is); (case a_Span => k_is); (case a_z_law_pool => k_is); (case l_z_law_pool => k_is); (case c_z_law_pool => k_is); (case k_z_law_pool => k_is); (case a_z_law_spread => k_is); (case l_z_law_spread => k_is); (case c_z_law_spread => k_is); (case k_z_law_spread => k_is); (case a_z_law_draw => k_is); (case l_z_law_draw => k_is); (case c_z_law_draw => k_is); (case k_z_law_draw => k_is); (case a_z_law_places_in => k_is); (case l_z_law_places_in => k_is); (case c_z_law_places_in => k_is); (case k_z_law_places_in => k_is); (case a_z_law_set_bit => k_is); (case l_z_law_set_bit => k_is); (case c_z_law_set_bit => k_is); (case k_z_law_set_bit => k_is); (case a_z_law_or => k_is); (case l_z_law_or => k_is); (case c_z_law_or => k_is); (case k_z_law_or => k_is); (case a_z_law_check => k_is); (case l_z_law_check => k_is); (case c_z_law_check => k_is); (case k_z_law_check => k_is); (case a_z_law_settings => k_is); (case l_z_law_settings => k_is); (case c_z_law_settings => k_is); (case k_z_law_settings => k_is); (case a_z_law_same => k_is); (case l_z_law_same => k_is); (case c_z_law_same => k_is); (case k_z_law_same => k_is); (case a_Span_init => k_is); (case i_Span_init => k_is); (case l_Span_init => k_is); (case c_Span_init => k_is); (case k_Span_init => k_is); (case a_with_bit => k_is); (case l_with_bit => k_is); (case c_with_bit => k_is); (case k_with_bit => k_is); (case a_exclusive => k_is); (case l_exclusive => k_is); (case c_exclusive => k_is); (case k_exclusive => k_is); (case a_Span_reduced_o => k_is); (case i_Span_reduced_o => k_is); (case l_Span_reduced_o => k_is); (case c_Span_reduced_o => k_is); (case k_Span_reduced_o => k_is); (case a_Span_add => k_is); (case i_Span_add => k_is); (case l_Span_add => k_is); (case c_Span_add => k_is); (case k_Span_add => k_is); (case a_byte_bits => k_is); (case l_byte_bits => k_is); (case c_byte_bits => k_is); (case k_byte_bits => k_is); (case a_step => k_is); (case l_step => k_is); (case c_step => k_is); (case k_step => k_is); (case a_crc => k_is); (case l_crc => k_is); (case c_crc => k_is); (case k_crc => k_is); (case a_crc_change => k_is); (case l_crc_change => k_is); (case c_crc_change => k_is); (case k_crc_change => k_is); (case a_span_of => k_is); (case l_span_of => k_is); (case c_span_of => k_is); (case k_span_of => k_is); (case a_Span_reduced => k_is); (case i_Span_reduced => k_is); (case l_Span_reduced => k_is); (case c_Span_reduced => k_is); (case k_Span_reduced => k_is); (case a_demand_unknown => k_is); (case l_demand_unknown => k_is); (case c_demand_unknown => k_is); (case k_demand_unknown => k_is); (case a_solution_count => k_is); (case l_solution_count => k_is); (case c_solution_count => k_is); (case k_solution_count => k_is); (case a_solution => k_is); (case l_solution => k_is); (case c_solution => k_is); (case k_solution => k_is); (case a_law => k_is); (case l_law => k_is); (case c_law => k_is); (case k_law => k_is); (case z_all => k_is); (case z_bool => k_is); (case z_int => k_is); (case z_isinstance => k_is); (case z_len => k_is); (case z_list => k_is); (case z_max => k_is); (case z_range => k_is); (case z_sorted => k_is); (case z_str => k_is); (case z_tuple => k_is); (case ns_BIT_WEIGHTS => k_is); (case l_BIT_WEIGHTS => k_is); (case a_CRC_START => k_is); (case a_CRC_MASK => k_is); (case a_WORD => k_is); (case a_TOP => k_is); (case a_MOST_UNKNOWN => k_is); (case ns_POWERS => k_is); (case l_POWERS => k_is); (case k_InvalidPlan => k_is); (case xb_InvalidPlan => k_is); (case xt_InvalidPlan => k_is); (case xd_InvalidPlan => k_is); (case x_InvalidUnknowns => k_exc); (case k_InvalidUnknowns => k_is); (case xb_InvalidUnknowns => k_is); (case xt_InvalidUnknowns => k_is); (case xd_InvalidUnknowns => k_is); (case su_InvalidPlan_InvalidUnknowns => (first | rfl | k_is)); (case su_InvalidUnknowns_InvalidUnknowns => (first | rfl | k_is)); (case su_Span_InvalidUnknowns => (first | rfl | k_is)); (case e1_InvalidUnknowns => k_is); (case e2_InvalidUnknowns => k_is); (case e3_InvalidUnknowns => k_is); (case e4_InvalidUnknowns => k_is); (case e5_InvalidUnknowns => k_is); (case e6_InvalidUnknowns => k_is); (case kt_InvalidUnknowns_InvalidPlan => kit_is); (case pg_Span => k_is); (case hd_Span => k_is); (case po_Span => k_is); (case sa_Span => k_is); (case mk_Span => k_is); (case kc_Span => k_is); (case na_Span_kept => k_is)
