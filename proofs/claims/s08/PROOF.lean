import PyProof.Rows.All
import Wide.All
import OpenK.AllK
import Wide.FinOn
import PyProof.EqAt
import PyProof.EqKinds
import PyProof.TupleCall
import Open.SpecLaws
import KE.OsGo
import HandS.ForSpec
import HandS.Comp
import HandS.Dict
import HandS.Iter
import HandS.Walk
import HandS.Conv
import HandS.ExcInit
import HandS.ExcField
import HandS.Style
import HandS.DictEq
import HandS.More
import KE.KEqSeq
import KE.BitLaws
import HandS.Rev
import KE.KIntText
import HandS.SortRule
import KE.KDictKeyed
import KE.KDictLaw
import KE.OsHead
import PySem.Challenge.RW_segmentrules_s08_put
set_option Elab.async false
set_option linter.all false
set_option maxRecDepth 100000
set_option maxHeartbeats 4000000
/-! # Words over the hand layer: facts of a def, steps of a reading -/
namespace Sr
open PySem PySem.Spec PyProof.Rows L2
/-- a def of the module: where it stands, that it is it, how it binds -/
structure Fn (K : PySem.W.Frag) (mg : Str → Option Value) (x : Str) (st : Stmt) (ps : List Str) where
  a : Addr
  fd : FuncData
  F : Fun K x x st a fd
  b : Binds K fd ps []
  g : mg x = some (.ref a)
/-- a method of a class at C -/
structure Mt (K : PySem.W.Frag) (C : Addr) (x qual : Str) (st : Stmt) (ps : List Str) where
  a : Addr
  fd : FuncData
  F : Fun K x qual st a fd
  b : Binds K fd ps []
  m : Meth K C x a
/-- a whole number among the module's constants -/
theorem pe_gi {X : Cx} {x : Str} {n : Int} {pos : Pos} (h : ∃ t, X.mg x = some (.int n t)) (hg : Gl X x := by rfl) (hd : (x == ("__debug__" : Str)) = false := by decide) : PE X (.Name x pos) (tC (.int n)) := by
  obtain ⟨t, e⟩ := h
  exact pe_glob hg e ⟨t, rfl⟩ hd
/-- an object among the module's constants -/
theorem pe_gr {X : Cx} {x : Str} {a : Addr} {pos : Pos} (h : X.mg x = some (.ref a)) (hg : Gl X x := by rfl) (hd : (x == ("__debug__" : Str)) = false := by decide) : PE X (.Name x pos) (tC (.ref a)) := pe_glob hg h rfl hd
/-! ### the layer's rules, the written part told by its name -/
section
variable {X : Cx} (K : PySem.W.Frag)
def rLen (K : PySem.W.Frag) : List V → Hp → VK → Prop := fun xs H Q => ∃ p ys, xs = [.ref p] ∧ (SqL K H p ys ∨ SqT K H p ys) ∧ Q (.int ys.length) H
theorem cr_len (hK : X.K = K := by rfl) : CallR X (.builtin "len") (rLen K) := by subst hK; exact call_len_seq
def rListS (K : PySem.W.Frag) : List V → Hp → VK → Prop := fun xs H Q => ∃ p ys, xs = [.ref p] ∧ (SqL K H p ys ∨ SqT K H p ys) ∧ ∀ l, H l = none → Q (.ref l) (upd H l (.lst ys))
theorem cr_list (hK : X.K = K := by rfl) : CallR X (.type "list") (rListS K) := by subst hK; exact call_list_of
def rTupS (K : PySem.W.Frag) : List V → Hp → VK → Prop := fun xs H Q => ∃ p ys, xs = [.ref p] ∧ ((SqL K H p ys ∧ ∀ l, H l = none → Q (.ref l) (upd H l (.tup ys))) ∨ (SqT K H p ys ∧ Q (.ref p) H))
theorem cr_tuple (hK : X.K = K := by rfl) : CallR X (.type "tuple") (rTupS K) := by subst hK; exact call_tuple_of
theorem ixLK (hK : X.K = K := by rfl) : IxR X (rIxL K) := by subst hK; exact ix_list
theorem ixTK (hK : X.K = K := by rfl) : IxR X (rIxT K) := by subst hK; exact ix_tup
theorem slLK (hK : X.K = K := by rfl) : SlR X (rSlL K) := by subst hK; exact sl_list
theorem inK (hK : X.K = K := by rfl) : OpR X (compareOp .In) (rIn K false) := by subst hK; exact op_in_seq
theorem ninK (hK : X.K = K := by rfl) : OpR X (compareOp .NotIn) (rIn K true) := by subst hK; exact op_notIn_seq
theorem eqDK (hu : X.A.units + 64 < cLine) (hK : X.K = K := by rfl) : OpR X (compareOp .Eq) (rEqD K) := by subst hK; exact op_eqD hu
theorem neDK (hu : X.A.units + 64 < cLine) (hK : X.K = K := by rfl) : OpR X (compareOp .NotEq) (rNeD K) := by subst hK; exact op_neD hu
theorem piLK {tg l : Expr} {tl : TE} (hl : PE X l tl) (hK : X.K = K := by rfl) : PI X tg l (iList K tl) := by subst hK; exact pi_list hl
theorem piTK {tg l : Expr} {tl : TE} (hl : PE X l tl) (hK : X.K = K := by rfl) : PI X tg l (iTup K tl) := by subst hK; exact pi_tup hl
theorem piEK {e : Expr} {ta : TA} {p pos tpos : Pos} {elts : List Expr} {kk : Nat} (hg : Gl X "enumerate") (hm : X.mg "enumerate" = none) (ha : PA X [e] ta) (hK : X.K = K := by rfl) (hs : starEach [e] X.env = [(false, eval e X.env)] := by rfl) :
    PI X (.Tuple elts kk tpos) (.Call (.Name "enumerate" p) [e] [] pos) (iEnum K ta) := by subst hK; exact pi_enum hg hm ha hs
theorem piZK {e e2 : Expr} {ta : TA} {p pos tpos : Pos} {elts : List Expr} {kk : Nat} (hg : Gl X "zip") (hm : X.mg "zip" = none) (ha : PA X [e, e2] ta) (hK : X.K = K := by rfl)
    (hs : starEach [e, e2] X.env = (false, eval e X.env) :: starEach [e2] X.env := by rfl) (hpl : (backTo pos (starEach [e2] X.env)).any (·.1) = false := by rfl) :
    PI X (.Tuple elts kk tpos) (.Call (.Name "zip" p) [e, e2] [] pos) (iZip K ta) := by subst hK; exact pi_zip hg hm ha hs hpl
theorem fldK {e : Expr} {ta : TE} {f : Str} {pos : Pos} (he : PE X e ta) (hb : attributeBase e f X.env (eval e X.env) = eval e X.env) (hK : X.K = K := by rfl) : PE X (.Attribute e f pos) (tFld K ta f) := by subst hK; exact pe_fld he hb
theorem sfldK {o value : Expr} {ta tv : TE} {f : Str} {pos pos' : Pos} (ha : PE X o ta) (hv : PE X value tv) (hs : swapsWith value (some (.Attribute o f pos')) pos.line X.env = pure false) (hK : X.K = K := by rfl) : PS X (.Assign [.Attribute o f pos'] value pos) (sFld K ta tv f) := by subst hK; exact ps_fld ha hv hs
theorem gtK {es : List Expr} {k : Nat} {t : TGs} {n : Nat} {pos : Pos} (hc : X.calm = true) (h : PGs X es t) (hK : X.K = K := by rfl)
    (hn : (assignEach es X.env).length = n := by rfl) (hst : (assignEach es X.env).findIdx? (·.1) = none := by rfl) : PG X (.Tuple es k pos) (gTup K n t) := by subst hK; exact pg_tup hc h hn hst
theorem bmK {o e : Expr} {es : List Expr} {to : TE} {t : TA} {name : Str} {apos cpos : Pos} {T id : String} {r : V → List V → Hp → VK → Prop}
    (pa : PlainAttrs T) (slot : Slot T name id) (hty : typeOf (.builtin id) = pure (.type "method_descriptor")) (hm : MtR X id r) (ho : PE X o to) (ha : PA X (e :: es) t) (hK : X.K = K := by rfl)
    (hbase : attributeBase o name X.env (eval o X.env) = eval o X.env := by rfl)
    (hfew : ((backTo cpos (starEach (e :: es) X.env)).all (fun x => !x.1) && (backToKw cpos (keywordEach [] X.env)).all (fun x => x.1.isSome)
      && decide ((e :: es).length + ([] : List Keyword).length + (if ([] : List Keyword).isEmpty then 0 else 1) < 30)) = true := by rfl)
    (hline : (apos.endLine == cpos.line) = true := by rfl) (hs : starEach (e :: es) X.env = (false, eval e X.env) :: starEach es X.env := by rfl) (hplain : (backTo cpos (starEach es X.env)).any (·.1) = false := by rfl) :
    PE X (.Call (.Attribute o name apos) (e :: es) [] cpos) (tBM K T r to t) := by subst hK; exact pe_bm pa slot hty hm ho ha hbase hfew hline hs hplain
theorem bm0K {o : Expr} {to : TE} {name : Str} {apos cpos : Pos} {T id : String} {r : V → List V → Hp → VK → Prop}
    (pa : PlainAttrs T) (slot : Slot T name id) (hty : typeOf (.builtin id) = pure (.type "method_descriptor")) (hm : MtR X id r) (ho : PE X o to) (hK : X.K = K := by rfl)
    (hbase : attributeBase o name X.env (eval o X.env) = eval o X.env := by rfl) (hline : (apos.endLine == cpos.line) = true := by rfl) : PE X (.Call (.Attribute o name apos) [] [] cpos) (tBM0 K T r to) := by subst hK; exact pe_bm0 pa slot hty hm ho hbase hline
theorem ostK {o e : Expr} {to te : TE} {f : Str} {p' pos : Pos} (ho : PE X o to) (he : PE X e te) (hK : X.K = K := by rfl) (hs : swapsWith e (some (.Attribute o f p')) pos.line X.env = pure false := by rfl) : PS X (.Assign [.Attribute o f p'] e pos) (tOst K f to te) := by subst hK; exact ps_ost ho he hs
end
def rInt1 : List V → Hp → VK → Prop := fun xs H Q => (∃ i, xs = [.int i] ∧ Q (.int i) H) ∨ ∃ k, xs = [.bl k] ∧ Q (.int (if k then 1 else 0)) H
theorem cr_int1 {X : Cx} : CallR X (.type "int") rInt1 := call_int1
def rMax2 : List V → Hp → VK → Prop := fun xs H Q => ∃ i j, xs = [.int i, .int j] ∧ Q (.int (if j > i then j else i)) H
theorem cr_max2 {X : Cx} (hc : X.calm = true) : CallR X (.builtin "max") rMax2 := call_max2 hc
def rOrd : List V → Hp → VK → Prop := fun xs H Q => ∃ x, xs = [.str x] ∧ x.length = 1 ∧ Q (.int (x.cps.getD 0 0 : Nat)) H
theorem cr_ord {X : Cx} : CallR X (.builtin "ord") rOrd := call_ord
def rStrI : List V → Hp → VK → Prop := fun xs H Q => ∃ i, xs = [.int i] ∧ i.natAbs.log2 < 1920 ∧ Q (.str (toString i)) H
theorem cr_strI {X : Cx} : CallR X (.type "str") rStrI := call_str_int
def rIsN : R2 := fun x y H Q => y = .non ∧ Q (.bl (decide (x = .non))) H
theorem op_isN1 {X : Cx} : OpR X (compareOp .Is) rIsN := op_isN
def rNotN : R2 := fun x y H Q => y = .non ∧ Q (.bl (!decide (x = .non))) H
theorem op_notN1 {X : Cx} : OpR X (compareOp .IsNot) rNotN := op_notN
/-! ### o.m() within a try -/
def tMethS (C : Addr) (m : Str) (sp : Sp) (E : L2.St → XK) (ta : TE) (t : TA) : TE := fun σ H Q => ta σ H fun x H1 => ∃ a dx fs, x = .ref a ∧ H1 a = some (.ins C dx fs) ∧ fs.lookup m = none ∧ t σ H1 fun vs H2 => sp (x :: vs) H2 Q (E σ)
theorem pe_meth0S {X : Cx} {CX : CXT} {k : Nat} {f C : Addr} {fd : FuncData} {ps : List Str} {sp : Sp} {E : L2.St → XK} {m : Str} {pos apos : Pos} {o : Expr} {ta : TE} {pl : Sem Bool} (he : PE X o ta) (c : Cls X.K C) (hm : Meth X.K C m f)
    (F : FnOk X.prog X.w X.K X.mg X.base CX k f fd ps sp) (hr : Room k X.A) (hb : Binds X.K fd ps []) (hx : ∀ σ, PassesAt CX X σ (E σ))
    (ht : eval (.Call (.Attribute o m apos) [] [] pos) X.env = (do
      let ov ← eval o X.env
      standAt apos.atName
      let (f, first) ← holding [ov] (getMethod ov m pl)
      callWith pos f first (backTo pos (starEach [] X.env)) (backToKw pos (keywordEach [] X.env))) := by rfl) :
    PE X (.Call (.Attribute o m apos) [] [] pos) (tMethS C m sp E ta tNil) := by
  refine ⟨fun pins s σ H Q I h => ?_⟩
  refine PySem.W.methodCall_KW (pl := pl) (thn (he.run pins s σ H _ I h) fun u s1 ⟨x, H1, I1, rx, a, dx, fs, ex, ea, l, q⟩ => ?_) ht
  subst ex
  obtain rfl : u = Value.ref a := rx
  refine getmeth_ok I1 ea c hm l ?_
  exact PySem.W.callWith_K0 (first := [.ref a]) I1.kIn hm.kp (run_fnS (us := [.ref a]) (vs := [.ref a]) F hr hb (hx σ) I1 (.cons rfl .nil) q)
/-! ### a dict against the empty one -/
def rEqE : R2 := fun x y H Q => ∃ a b kvs, x = .ref a ∧ y = .ref b ∧ H a = some (.dK kvs) ∧ H b = some (.dK []) ∧ Q (.bl kvs.isEmpty) H
theorem op_eqDict {X : Cx} (hu : X.A.units + 64 < cLine) : OpR X (compareOp .Eq) rEqE := by
  intro pins s σ H x y v u Q I rx ry h
  obtain ⟨a, b, kvs, rfl, rfl, ha, hb, q⟩ := h
  cases (show v = Value.ref a from rx)
  cases (show u = Value.ref b from ry)
  obtain ⟨_, ya, va, ra, da⟩ := (show ObjOk X.prog X.w H s.heap a (.dK kvs) from I.hok a _ ha)
  obtain ⟨_, yb, vb, rb, db⟩ := (show ObjOk X.prog X.w H s.heap b (.dK []) from I.hok b _ hb)
  have hb0 : vb.length = 0 := rb.length.symm
  have hvb : vb = [] := List.length_eq_zero_iff.mp hb0
  subst hvb
  refine PySem.W.rcP_dicts (knd := mixKind X.prog X.w) (r := true) ya yb da db (by omega) (fun e => ?_) _ _ ?_
  · have : va = [] := List.length_eq_zero_iff.mp e
    rw [this]
    exact .nil
  · refine ⟨.bl _, H, I, ?_, q⟩
    have e : kvs.length = va.length := ra.length
    show Value.bool (va.length == 0 && true) = Value.bool kvs.isEmpty
    rw [← e, Bool.and_true]
    cases kvs <;> rfl
theorem u_eqE {H : Hp} {Q : VK} {a b : Addr} {kvs : List (Key × V)} (ha : H a = some (.dK kvs)) (hb : H b = some (.dK [])) (h : Q (.bl kvs.isEmpty) H) : rEqE (.ref a) (.ref b) H Q := ⟨a, b, kvs, rfl, rfl, ha, hb, h⟩
/-! ### heaps -/
theorem same_new {H : Hp} {p : Addr} {o : HO} (h : H p = none) : Same H (upd H p o) := fun a u e => by
  rw [upd_ne (ne_of_none e h)]
  exact e
theorem same_mut {H H' : Hp} {p : Addr} {o : HO} (e : Same H H') (h : H p = none) : Same H (upd H' p o) := fun a u ha => by
  rw [upd_ne (ne_of_none ha h)]
  exact e a u ha
theorem same_then {H H' : Hp} {p : Addr} {o : HO} (e : Same H H') (h : H' p = none) : Same H (upd H' p o) := e.trans (same_new h)
theorem same_rd {H H' : Hp} {a : Addr} {u : HO} (e : Same H H') (h : Rd H a u) : Rd H' a u := by
  rcases h with h | ⟨o, h⟩
  · exact Or.inl (e a _ h)
  · exact Or.inr ⟨o, e a _ h⟩
theorem same_l {K : PySem.W.Frag} {H H' : Hp} {a : Addr} {xs : List V} (e : Same H H') (h : SqL K H a xs) : SqL K H' a xs := e.seq h
theorem same_t {K : PySem.W.Frag} {H H' : Hp} {a : Addr} {xs : List V} (e : Same H H') (h : SqT K H a xs) : SqT K H' a xs := by
  rcases h with h | h
  · exact Or.inl (same_rd e h)
  · exact Or.inr h
theorem size_small {n : Nat} (h : n ≤ 1000000) : n ≤ sizeLine := Nat.le_trans h (by decide)
theorem size_less {n : Nat} (h : n < 1000000) : n < sizeLine := Nat.lt_of_lt_of_le h (by decide)
/-! ### steps of a reading -/
section
variable {σ : L2.St} {H : Hp} {K : PySem.W.Frag} {nx : L2.St → Hp → Prop} {rt Q : VK} {bk ct : L2.St → Hp → Prop} {t u : TS} {te ta tb tc : TE} {tt tt2 : TT} {g : TG} {v x y : V} {r r2 : R2} {QT : Bool → Hp → Prop} {QA : List V → Hp → Prop}
theorem u_seq (h : t ⟨u ⟨nx, rt, bk, ct⟩, rt, bk, ct⟩ σ H) : tSeq t u ⟨nx, rt, bk, ct⟩ σ H := h
theorem u_if (h : tt σ H fun b H1 => if b = true then t ⟨nx, rt, bk, ct⟩ σ H1 else u ⟨nx, rt, bk, ct⟩ σ H1) : tIfS tt t u ⟨nx, rt, bk, ct⟩ σ H := h
theorem u_next (h : nx σ H) : tNext ⟨nx, rt, bk, ct⟩ σ H := h
theorem u_ret (h : te σ H rt) : tRet te ⟨nx, rt, bk, ct⟩ σ H := h
theorem u_retN (h : rt .non H) : tRetN ⟨nx, rt, bk, ct⟩ σ H := h
theorem u_asg (h : te σ H fun x H1 => g x σ H1 nx) : tAsg te g ⟨nx, rt, bk, ct⟩ σ H := h
theorem u_drop (h : te σ H fun _ H1 => nx σ H1) : tDrop te ⟨nx, rt, bk, ct⟩ σ H := h
theorem u_gn {i : Nat} (h : nx (σ.set i (some v)) H) : gName i v σ H nx := h
theorem u_var {i : Nat} (e : σ[i]? = some (some v)) (h : Q v H) : tVar i σ H Q := ⟨v, e, h⟩
theorem u_c (h : Q v H) : tC v σ H Q := h
theorem u_op (h : ta σ H fun x H1 => tb σ H1 fun y H2 => r x y H2 Q) : tOp r ta tb σ H Q := h
theorem u_un {r : V → Hp → VK → Prop} (h : ta σ H fun x H1 => r x H1 Q) : tUn r ta σ H Q := h
theorem u_U {f : Int → V} {i : Int} (h : Q (f i) H) : rU f (.int i) H Q := ⟨i, rfl, h⟩
theorem u_I0 {f : Int → Int → V} {i j : Int} (h : Q (f i j) H) : rI0 f (.int i) (.int j) H Q := ⟨i, j, rfl, rfl, h⟩
theorem u_I {C : Int → Int → Prop} {f : Int → Int → V} {i j : Int} (c : C i j) (h : Q (f i j) H) : rI C f (.int i) (.int j) H Q := ⟨i, j, rfl, rfl, c, h⟩
theorem u_eqI {i j : Int} (h : Q (.bl (decide (i = j))) H) : rEq (.int i) (.int j) H Q := ⟨rfl, by
  have e : decide (V.int i = V.int j) = decide (i = j) := by
    by_cases c : i = j
    · subst c; simp
    · rw [decide_eq_false c, decide_eq_false (fun z => c (V.int.inj z))]
  rw [e]
  exact h⟩
theorem u_neI {i j : Int} (h : Q (.bl (decide (i ≠ j))) H) : rNe (.int i) (.int j) H Q := ⟨rfl, by
  have e : (!decide (V.int i = V.int j)) = decide (i ≠ j) := by
    by_cases c : i = j
    · subst c; simp
    · rw [decide_eq_true (show i ≠ j from c), decide_eq_false (fun z => c (V.int.inj z))]; rfl
  rw [e]
  exact h⟩
theorem u_test (h : te σ H fun x H' => ∃ k, x = .bl k ∧ QT k H') : tTest te σ H QT := h
theorem u_tB (h : te σ H fun x H' => ∃ k, x = .bl k ∧ QT k H') : tB te σ H QT := h
theorem u_bl {k : Bool} {P : Bool → Prop} (h : P k) : ∃ k', V.bl k = .bl k' ∧ P k' := ⟨k, rfl, h⟩
theorem u_and (h : tt σ H fun c H1 => if c = true then tt2 σ H1 QT else QT false H1) : tAnd tt tt2 σ H QT := h
theorem u_or (h : tt σ H fun c H1 => if c = true then QT true H1 else tt2 σ H1 QT) : tOr tt tt2 σ H QT := h
theorem u_not (h : tt σ H fun c H1 => QT (!c) H1) : tNot tt σ H QT := h
theorem u_ifx (h : tt σ H fun c H1 => if c = true then ta σ H1 Q else tb σ H1 Q) : tIf tt ta tb σ H Q := h
theorem u_chain (h : ta σ H fun x H1 => tb σ H1 fun y H2 => r x y H2 fun z H3 => ∃ k, z = .bl k ∧ (if k = true then tc σ H3 fun w H4 => r2 y w H4 Q else Q (.bl false) H3)) : tChain r r2 ta tb tc σ H Q := h
theorem u_nil (h : QA [] H) : tNil σ H QA := h
theorem u_cons {tr : TA} (h : te σ H fun x H1 => tr σ H1 fun xs H2 => QA (x :: xs) H2) : tCons te tr σ H QA := h
theorem u_tup {tr : TA} (h : tr σ H fun xs H1 => xs.length ≤ sizeLine ∧ ∀ p, H1 p = none → Q (.ref p) (upd H1 p (.tup xs))) : tTup tr σ H Q := h
theorem u_lst {tr : TA} (h : tr σ H fun xs H1 => xs.length ≤ sizeLine ∧ ∀ p, H1 p = none → Q (.ref p) (upd H1 p (.lst xs))) : tLst tr σ H Q := h
theorem u_cb {rr : List V → Hp → VK → Prop} {tr : TA} (h : tr σ H fun vs H1 => rr vs H1 Q) : tCB rr tr σ H Q := h
theorem u_call {sp : Sp} {dvs : List V} {E : XK} {tr : TA} (h : tr σ H fun vs H1 => sp (vs ++ dvs) H1 Q E) : tCall sp dvs E tr σ H Q := h
theorem u_lenL {p : Addr} {ys : List V} (hs : SqL K H p ys) (h : Q (.int ys.length) H) : rLen K [.ref p] H Q := ⟨p, ys, rfl, Or.inl hs, h⟩
theorem u_lenT {p : Addr} {ys : List V} (hs : SqT K H p ys) (h : Q (.int ys.length) H) : rLen K [.ref p] H Q := ⟨p, ys, rfl, Or.inr hs, h⟩
theorem u_listL {p : Addr} {ys : List V} (hs : SqL K H p ys) (h : ∀ l, H l = none → Q (.ref l) (upd H l (.lst ys))) : rListS K [.ref p] H Q := ⟨p, ys, rfl, Or.inl hs, h⟩
theorem u_listT {p : Addr} {ys : List V} (hs : SqT K H p ys) (h : ∀ l, H l = none → Q (.ref l) (upd H l (.lst ys))) : rListS K [.ref p] H Q := ⟨p, ys, rfl, Or.inr hs, h⟩
theorem u_tupL {p : Addr} {ys : List V} (hs : SqL K H p ys) (h : ∀ l, H l = none → Q (.ref l) (upd H l (.tup ys))) : rTupS K [.ref p] H Q := ⟨p, ys, rfl, Or.inl ⟨hs, h⟩⟩
theorem u_intB {k : Bool} (h : Q (.int (if k then 1 else 0)) H) : rInt1 [.bl k] H Q := Or.inr ⟨k, rfl, h⟩
theorem u_slL {p : Addr} {xs : List V} {lo hi : Option Int} (hs : SqL K H p xs) (h : ∀ l, H l = none → Q (.ref l) (upd H l (.lst (cutV xs lo hi)))) : rSlL K (.ref p) lo hi H Q := ⟨p, xs, rfl, hs, h⟩
theorem u_max {i j : Int} (h : Q (.int (if j > i then j else i)) H) : rMax2 [.int i, .int j] H Q := ⟨i, j, rfl, h⟩
theorem u_ixL {p : Addr} {xs : List V} {i : Int} (hs : SqL K H p xs) (e : atI xs i = some v) (h : Q v H) : rIxL K (.ref p) (.int i) H Q := ⟨p, xs, i, v, rfl, rfl, hs, e, h⟩
theorem u_ixT {p : Addr} {xs : List V} {i : Int} (hs : SqT K H p xs) (e : atI xs i = some v) (h : Q v H) : rIxT K (.ref p) (.int i) H Q := ⟨p, xs, i, v, rfl, rfl, hs, e, h⟩
theorem u_sl {rs : V → Option Int → Option Int → Hp → VK → Prop} {tl th : TO} (h : te σ H fun x H1 => tl σ H1 fun l H2 => th σ H2 fun u H3 => rs x l u H3 Q) : tSl rs te tl th σ H Q := h
theorem u_part {QO : Option Int → Hp → Prop} (h : te σ H fun x H1 => ∃ i, x = .int i ∧ QO (some i) H1) : tPart te σ H QO := h
theorem u_nopart {QO : Option Int → Hp → Prop} (h : QO none H) : tNoPart σ H QO := h
theorem u_pint {i : Int} {P : Int → Prop} (h : P i) : ∃ i', V.int i = .int i' ∧ P i' := ⟨i, rfl, h⟩
theorem u_in {p : Addr} {xs : List V} (hs : SqL K H p xs ∨ SqT K H p xs) (fx : flatV x = true) (fl : xs.all flatV = true) (h : Q (.bl (inV x xs)) H) : rIn K false x (.ref p) H Q := ⟨p, xs, rfl, hs, fx, fl, h⟩
theorem u_nin {p : Addr} {xs : List V} (hs : SqL K H p xs ∨ SqT K H p xs) (fx : flatV x = true) (fl : xs.all flatV = true) (h : Q (.bl (!inV x xs)) H) : rIn K true x (.ref p) H Q := ⟨p, xs, rfl, hs, fx, fl, h⟩
theorem u_andV (h : ta σ H fun x H1 => ∃ c, x = .bl c ∧ if c = true then tb σ H1 Q else Q (.bl false) H1) : tAndV ta tb σ H Q := h
theorem u_orV (h : ta σ H fun x H1 => ∃ c, x = .bl c ∧ if c = true then Q (.bl true) H1 else tb σ H1 Q) : tOrV ta tb σ H Q := h
theorem u_notV (h : ta σ H fun x H1 => ∃ c, x = .bl c ∧ Q (.bl (!c)) H1) : tNotV ta σ H Q := h
theorem u_par {i j : Nat} {tr : TA} (h : tr σ H fun vs H1 => ∃ v w, vs = [v, w] ∧ nx ((σ.set i (some v)).set j (some w)) H1) : tPar i j tr ⟨nx, rt, bk, ct⟩ σ H := h
theorem u_vw {P : V → V → Prop} {w : V} (h : P v w) : ∃ v' w', [v, w] = [v', w'] ∧ P v' w' := ⟨v, w, rfl, h⟩
theorem u_vwz {P : V → V → V → Prop} {w z : V} (h : P v w z) : ∃ v' w' z', [v, w, z] = [v', w', z'] ∧ P v' w' z' := ⟨v, w, z, rfl, h⟩
theorem u_par3 {i j l : Nat} {tr : TA} (h : tr σ H fun vs H1 => ∃ u v w, vs = [u, v, w] ∧ nx (((σ.set i (some u)).set j (some v)).set l (some w)) H1) : tPar3 i j l tr ⟨nx, rt, bk, ct⟩ σ H := h
theorem u_app {tr : TA} (h : ta σ H fun x H1 => tyV K "list" x H1 ∧ tr σ H1 fun xs H2 => rAppend x xs H2 Q) : tBM K "list" rAppend ta tr σ H Q := h
theorem u_append {l : Addr} {xs : List V} (hl : H l = some (.lst xs)) (hz : xs.length < sizeLine) (h : Q .non (upd H l (.lst (xs ++ [y])))) : rAppend (.ref l) [y] H Q := ⟨l, xs, y, rfl, rfl, hl, hz, h⟩
theorem u_lty {l : Addr} {xs : List V} (hl : H l = some (.lst xs)) : tyV K "list" (.ref l) H := Or.inl ⟨rfl, xs, Or.inl (Or.inl hl)⟩
end
/-! ### loops -/
section
variable {σ : L2.St} {H : Hp} {K : PySem.W.Frag} {nx : L2.St → Hp → Prop} {rt Q : VK} {bk ct : L2.St → Hp → Prop} {tb : TS} {g : TG} {tt : TT} {te : TE}
def ForJ (J : It) (g : TG) (tb : TS) (D : Ends) (σ : L2.St) (H : Hp) : Prop := ∃ W : Nat → Nat → L2.St → Hp → Prop, (∃ m, W 0 m σ H) ∧ ∀ i m σ H, W i m σ H →
  (J.stop i H ∧ D.nx σ H) ∨ (J.go i H ∧ ∃ N : L2.St → Hp → Prop, (∀ σ' H', N σ' H' → ∃ m', m' < m ∧ W (i + 1) m' σ' H') ∧ ∀ x H', J.yld i H x H' → g x σ H' fun σ2 H2 => tb { D with nx := N, ct := N, bk := D.nx } σ2 H2)
theorem u_for {wi : TI} {D : Ends} (h : wi σ H fun J H1 => ForJ J g tb D σ H1) : tFor wi g tb D σ H := h
theorem u_iL {tl : TE} {R : It → Hp → Prop} (h : tl σ H fun x H1 => ∃ a, x = .ref a ∧ (∃ xs, SqL K H1 a xs) ∧ R (Itl K a) H1) : iList K tl σ H R := h
theorem u_iT {tl : TE} {R : It → Hp → Prop} (h : tl σ H fun x H1 => ∃ a, x = .ref a ∧ (∃ xs, SqT K H1 a xs) ∧ R (Itt K a) H1) : iTup K tl σ H R := h
theorem u_iR1 {ta : TA} {R : It → Hp → Prop} (h : ta σ H fun vs H1 => ∃ j : Int, vs = [.int j] ∧ -(2 ^ 62) ≤ j ∧ j < 2 ^ 62 ∧ R (Itr 0 j.toNat) H1) : iRng1 ta σ H R := h
theorem u_iR2 {ta : TA} {R : It → Hp → Prop} (h : ta σ H fun vs H1 => ∃ i j : Int, vs = [.int i, .int j] ∧ (-(2 ^ 62) ≤ i ∧ i < 2 ^ 62 ∧ -(2 ^ 62) ≤ j ∧ j < 2 ^ 62) ∧ R (Itr i (j - i).toNat) H1) : iRng2 ta σ H R := h
theorem u_iE {ta : TA} {R : It → Hp → Prop} (h : ta σ H fun vs H1 => ∃ a xs, vs = [.ref a] ∧ SqL K H1 a xs ∧ R (Ite K a) H1) : iEnum K ta σ H R := h
theorem u_iZ {ta : TA} {R : It → Hp → Prop} (h : ta σ H fun vs H1 => ∃ a b xs ys, vs = [.ref a, .ref b] ∧ SqL K H1 a xs ∧ SqL K H1 b ys ∧ R (Itz K a b) H1) : iZip K ta σ H R := h
theorem f_list {a : Addr} {xs : List V} (Pv : Nat → L2.St → Hp → Prop) (hs0 : SqL K H a xs) (h0 : Pv 0 σ H) (hl : ∀ i σ H, i ≤ xs.length → Pv i σ H → SqL K H a xs)
    (hs : ∀ i x σ H, xs[i]? = some x → Pv i σ H → g x σ H fun σ2 H2 => tb ⟨Pv (i + 1), rt, nx, Pv (i + 1)⟩ σ2 H2) (hd : ∀ σ H, Pv xs.length σ H → nx σ H) :
    ∃ a', V.ref a = .ref a' ∧ (∃ xs, SqL K H a' xs) ∧ ForJ (Itl K a') g tb ⟨nx, rt, bk, ct⟩ σ H := ⟨a, rfl, ⟨_, hs0⟩, for_list (K := K) (a := a) (xs := xs) (D := ⟨nx, rt, bk, ct⟩) Pv h0 hl hs hd⟩
theorem f_listI {a : Addr} {ns : List Int} (Pv : Nat → L2.St → Hp → Prop) (hs0 : SqL K H a (ns.map V.int)) (h0 : Pv 0 σ H) (hl : ∀ i σ H, i ≤ ns.length → Pv i σ H → SqL K H a (ns.map V.int))
    (hs : ∀ i z σ H, ns[i]? = some z → Pv i σ H → g (.int z) σ H fun σ2 H2 => tb ⟨Pv (i + 1), rt, nx, Pv (i + 1)⟩ σ2 H2) (hd : ∀ σ H, Pv ns.length σ H → nx σ H) :
    ∃ a', V.ref a = .ref a' ∧ (∃ xs, SqL K H a' xs) ∧ ForJ (Itl K a') g tb ⟨nx, rt, bk, ct⟩ σ H :=
  f_list Pv hs0 h0 (fun i σ H hi => hl i σ H (by rw [List.length_map] at hi; exact hi)) (fun i x σ H hx hp => by
    rw [List.getElem?_map] at hx
    obtain ⟨z, hz, rfl⟩ := Option.map_eq_some_iff.mp hx
    exact hs i z σ H hz hp) (fun σ H hp => hd σ H (by rw [List.length_map] at hp; exact hp))
theorem f_tup {a : Addr} {xs : List V} (Pv : Nat → L2.St → Hp → Prop) (hs0 : SqT K H a xs) (h0 : Pv 0 σ H) (hl : ∀ i σ H, i ≤ xs.length → Pv i σ H → SqT K H a xs)
    (hs : ∀ i x σ H, xs[i]? = some x → Pv i σ H → g x σ H fun σ2 H2 => tb ⟨Pv (i + 1), rt, nx, Pv (i + 1)⟩ σ2 H2) (hd : ∀ σ H, Pv xs.length σ H → nx σ H) :
    ∃ a', V.ref a = .ref a' ∧ (∃ xs, SqT K H a' xs) ∧ ForJ (Itt K a') g tb ⟨nx, rt, bk, ct⟩ σ H := ⟨a, rfl, ⟨_, hs0⟩, for_tup (K := K) (a := a) (xs := xs) (D := ⟨nx, rt, bk, ct⟩) Pv h0 hl hs hd⟩
theorem f_rng1 {n : Int} (Pv : Nat → L2.St → Hp → Prop) (b1 : -(2 ^ 62) ≤ n) (b2 : n < 2 ^ 62) (h0 : Pv 0 σ H)
    (hs : ∀ (i : Nat) σ H, i < n.toNat → Pv i σ H → g (.int i) σ H fun σ2 H2 => tb ⟨Pv (i + 1), rt, nx, Pv (i + 1)⟩ σ2 H2) (hd : ∀ σ H, Pv n.toNat σ H → nx σ H) :
    ∃ j : Int, [V.int n] = [.int j] ∧ -(2 ^ 62) ≤ j ∧ j < 2 ^ 62 ∧ ForJ (Itr 0 j.toNat) g tb ⟨nx, rt, bk, ct⟩ σ H :=
  ⟨n, rfl, b1, b2, for_range (lo := 0) (n := n.toNat) (D := ⟨nx, rt, bk, ct⟩) Pv h0 (fun i σ H hi hp => by rw [Int.zero_add]; exact hs i σ H hi hp) hd⟩
theorem f_rng2 {lo hi : Int} (Pv : Nat → L2.St → Hp → Prop) (b : -(2 ^ 62) ≤ lo ∧ lo < 2 ^ 62 ∧ -(2 ^ 62) ≤ hi ∧ hi < 2 ^ 62) (h0 : Pv 0 σ H)
    (hs : ∀ (i : Nat) σ H, i < (hi - lo).toNat → Pv i σ H → g (.int (lo + i)) σ H fun σ2 H2 => tb ⟨Pv (i + 1), rt, nx, Pv (i + 1)⟩ σ2 H2) (hd : ∀ σ H, Pv (hi - lo).toNat σ H → nx σ H) :
    ∃ i j : Int, [V.int lo, V.int hi] = [.int i, .int j] ∧ (-(2 ^ 62) ≤ i ∧ i < 2 ^ 62 ∧ -(2 ^ 62) ≤ j ∧ j < 2 ^ 62) ∧ ForJ (Itr i (j - i).toNat) g tb ⟨nx, rt, bk, ct⟩ σ H :=
  ⟨lo, hi, rfl, b, for_range (lo := lo) (n := (hi - lo).toNat) (D := ⟨nx, rt, bk, ct⟩) Pv h0 hs hd⟩
theorem f_enum {a : Addr} {xs : List V} (Pv : Nat → L2.St → Hp → Prop) (hs0 : SqL K H a xs) (h0 : Pv 0 σ H) (hl : ∀ i σ H, i ≤ xs.length → Pv i σ H → SqL K H a xs)
    (hs : ∀ (i : Nat) x σ H t, xs[i]? = some x → Pv i σ H → H t = none → g (.ref t) σ (upd H t (.tup [.int i, x])) fun σ2 H2 => tb ⟨Pv (i + 1), rt, nx, Pv (i + 1)⟩ σ2 H2) (hd : ∀ σ H, Pv xs.length σ H → nx σ H) :
    ∃ a' xs, [V.ref a] = [.ref a'] ∧ SqL K H a' xs ∧ ForJ (Ite K a') g tb ⟨nx, rt, bk, ct⟩ σ H :=
  ⟨a, xs, rfl, hs0, for_it (walk_enum (K := K) (a := a) (xs := xs)) (D := ⟨nx, rt, bk, ct⟩) Pv h0 hl (fun i x σ H H' _ hp y => by
    obtain ⟨t, u, v, rfl, ht, rfl, hu, hv⟩ := y
    obtain rfl : V.int (i : Nat) = u := Option.some.inj hu
    exact hs i v σ H t hv hp ht) hd⟩
theorem f_zip {a b : Addr} {xs ys : List V} (Pv : Nat → L2.St → Hp → Prop) (hxs : SqL K H a xs) (hys : SqL K H b ys) (e : xs.length = ys.length) (h0 : Pv 0 σ H) (hl : ∀ i σ H, i ≤ xs.length → Pv i σ H → SqL K H a xs ∧ SqL K H b ys)
    (hs : ∀ (i : Nat) x y σ H t, xs[i]? = some x → ys[i]? = some y → Pv i σ H → H t = none → g (.ref t) σ (upd H t (.tup [x, y])) fun σ2 H2 => tb ⟨Pv (i + 1), rt, nx, Pv (i + 1)⟩ σ2 H2) (hd : ∀ σ H, Pv xs.length σ H → nx σ H) :
    ∃ a' b' xs ys, [V.ref a, V.ref b] = [.ref a', .ref b'] ∧ SqL K H a' xs ∧ SqL K H b' ys ∧ ForJ (Itz K a' b') g tb ⟨nx, rt, bk, ct⟩ σ H :=
  ⟨a, b, xs, ys, rfl, hxs, hys, for_it (walk_zip (K := K) (a := a) (b := b) (xs := xs) (ys := ys) (n := xs.length) (by rw [e, Nat.min_self])) (D := ⟨nx, rt, bk, ct⟩) Pv h0 hl (fun i x σ H H' _ hp y => by
    obtain ⟨t, u, v, rfl, ht, rfl, hu, hv⟩ := y
    exact hs i u v σ H t hu hv hp ht) hd⟩
theorem f_while {c : TT} (W : Nat → L2.St → Hp → Prop) {m : Nat} (h0 : W m σ H)
    (hs : ∀ m σ H, W m σ H → c σ H fun b H1 => if b = true then ∃ N : L2.St → Hp → Prop, (∀ σ' H', N σ' H' → ∃ m', m' < m ∧ W m' σ' H') ∧ tb ⟨N, rt, nx, N⟩ σ H1 else nx σ H1) : tWhile c tb ⟨nx, rt, bk, ct⟩ σ H := ⟨W, ⟨m, h0⟩, hs⟩
theorem u_body {W : Nat → L2.St → Hp → Prop} {m : Nat} (h : tb ⟨fun σ' H' => ∃ m', m' < m ∧ W m' σ' H', rt, nx, fun σ' H' => ∃ m', m' < m ∧ W m' σ' H'⟩ σ H) :
    ∃ N : L2.St → Hp → Prop, (∀ σ' H', N σ' H' → ∃ m', m' < m ∧ W m' σ' H') ∧ tb ⟨N, rt, nx, N⟩ σ H := ⟨_, fun _ _ h => h, h⟩
/-! comprehensions -/
def LcJ (J : It) (g : TG) (tt : TT) (te : TE) (vs : List Nat) (σ : L2.St) (Q : VK) (H1 : Hp) : Prop := ∀ D, H1 D = none → ∃ W : Nat → Nat → Hp → Prop, (∃ m, W 0 m (upd H1 D (.lst []))) ∧ ∀ i m H, W i m H →
  (J.stop i H ∧ Q (.ref D) H) ∨ (J.go i H ∧ ∃ Nx : Hp → Prop, (∀ H', Nx H' → ∃ m', m' < m ∧ W (i + 1) m' H') ∧ ∀ x H', J.yld i H x H' → g x (wipe σ vs) H' fun σ2 H2 => wipe σ2 vs = wipe σ vs ∧ tt σ2 H2 fun b H3 =>
    if b = true then te σ2 H3 fun y H4 => ∃ acc, H4 D = some (.lst acc) ∧ acc.length < sizeLine ∧ Nx (upd H4 D (.lst (acc ++ [y]))) else Nx H3)
theorem u_lc {wi : TI} {vs : List Nat} (h : wi σ H fun J H1 => LcJ J g tt te vs σ Q H1) : tLc wi g tt te vs σ H Q := h
theorem u_item {D : Addr} {acc : List V} {y : V} {Nx : Hp → Prop} (hD : H D = some (.lst acc)) (hz : acc.length < sizeLine) (h : Nx (upd H D (.lst (acc ++ [y])))) : ∃ acc, H D = some (.lst acc) ∧ acc.length < sizeLine ∧ Nx (upd H D (.lst (acc ++ [y]))) := ⟨acc, hD, hz, h⟩
theorem u_yes {QT : Bool → Hp → Prop} (h : QT true H) : tYes σ H QT := h
/-- what a turn of a comprehension asks -/
abbrev LcT (g : TG) (tt : TT) (te : TE) (vs : List Nat) (σ : L2.St) (D : Addr) (x : V) (H : Hp) (Nx : Hp → Prop) : Prop := g x (wipe σ vs) H fun σ2 H2 => wipe σ2 vs = wipe σ vs ∧ tt σ2 H2 fun b H3 =>
    if b = true then te σ2 H3 fun y H4 => ∃ acc, H4 D = some (.lst acc) ∧ acc.length < sizeLine ∧ Nx (upd H4 D (.lst (acc ++ [y]))) else Nx H3
theorem c_list {a : Addr} {xs : List V} {vs : List Nat} (Pv : Addr → Nat → Hp → Prop) (hs0 : SqL K H a xs) (h0 : ∀ D, H D = none → Pv D 0 (upd H D (.lst []))) (hl : ∀ D i H', H D = none → i ≤ xs.length → Pv D i H' → SqL K H' a xs)
    (hs : ∀ D i x H', H D = none → xs[i]? = some x → Pv D i H' → LcT g tt te vs σ D x H' (Pv D (i + 1))) (hd : ∀ D H', H D = none → Pv D xs.length H' → Q (.ref D) H') :
    ∃ a', V.ref a = .ref a' ∧ (∃ xs, SqL K H a' xs) ∧ LcJ (Itl K a') g tt te vs σ Q H := ⟨a, rfl, ⟨_, hs0⟩, fun D hD => lc_list (K := K) (a := a) (xs := xs) (Pv D) (h0 D hD) (fun i H' hi hp => hl D i H' hD hi hp) (fun i x H' hx hp => hs D i x H' hD hx hp) (fun H' hp => hd D H' hD hp)⟩
theorem c_rng1 {n : Int} {vs : List Nat} (Pv : Addr → Nat → Hp → Prop) (b1 : -(2 ^ 62) ≤ n) (b2 : n < 2 ^ 62) (h0 : ∀ D, H D = none → Pv D 0 (upd H D (.lst [])))
    (hs : ∀ D (i : Nat) H', H D = none → i < n.toNat → Pv D i H' → LcT g tt te vs σ D (.int i) H' (Pv D (i + 1))) (hd : ∀ D H', H D = none → Pv D n.toNat H' → Q (.ref D) H') :
    ∃ j : Int, [V.int n] = [.int j] ∧ -(2 ^ 62) ≤ j ∧ j < 2 ^ 62 ∧ LcJ (Itr 0 j.toNat) g tt te vs σ Q H := ⟨n, rfl, b1, b2, fun D hD => lc_range (lo := 0) (n := n.toNat) (Pv D) (h0 D hD) (fun i H' hi hp => by rw [Int.zero_add]; exact hs D i H' hD hi hp) (fun H' hp => hd D H' hD hp)⟩
theorem c_enum {a : Addr} {xs : List V} {vs : List Nat} (Pv : Addr → Nat → Hp → Prop) (hs0 : SqL K H a xs) (h0 : ∀ D, H D = none → Pv D 0 (upd H D (.lst []))) (hl : ∀ D i H', H D = none → i ≤ xs.length → Pv D i H' → SqL K H' a xs)
    (hs : ∀ D (i : Nat) x H' t, H D = none → xs[i]? = some x → Pv D i H' → H' t = none → LcT g tt te vs σ D (.ref t) (upd H' t (.tup [.int i, x])) (Pv D (i + 1))) (hd : ∀ D H', H D = none → Pv D xs.length H' → Q (.ref D) H') :
    ∃ a' xs, [V.ref a] = [.ref a'] ∧ SqL K H a' xs ∧ LcJ (Ite K a') g tt te vs σ Q H := ⟨a, xs, rfl, hs0, fun D hD => lc_it (walk_enum (K := K) (a := a) (xs := xs)) (Pv D) (h0 D hD) (fun i H' hi hp => hl D i H' hD hi hp) (fun i x H1 H' _ hp y => by
    obtain ⟨t, u, v, rfl, ht, rfl, hu, hv⟩ := y
    obtain rfl : V.int (i : Nat) = u := Option.some.inj hu
    exact hs D i v H1 t hD hv hp ht) (fun H' hp => hd D H' hD hp)⟩
theorem c_zip {a b : Addr} {xs ys : List V} {vs : List Nat} (Pv : Addr → Nat → Hp → Prop) (hxs : SqL K H a xs) (hys : SqL K H b ys) (e : xs.length = ys.length) (h0 : ∀ D, H D = none → Pv D 0 (upd H D (.lst []))) (hl : ∀ D i H', H D = none → i ≤ xs.length → Pv D i H' → SqL K H' a xs ∧ SqL K H' b ys)
    (hs : ∀ D (i : Nat) x y H' t, H D = none → xs[i]? = some x → ys[i]? = some y → Pv D i H' → H' t = none → LcT g tt te vs σ D (.ref t) (upd H' t (.tup [x, y])) (Pv D (i + 1))) (hd : ∀ D H', H D = none → Pv D xs.length H' → Q (.ref D) H') :
    ∃ a' b' xs ys, [V.ref a, V.ref b] = [.ref a', .ref b'] ∧ SqL K H a' xs ∧ SqL K H b' ys ∧ LcJ (Itz K a' b') g tt te vs σ Q H := ⟨a, b, xs, ys, rfl, hxs, hys, fun D hD => lc_it (walk_zip (K := K) (a := a) (b := b) (xs := xs) (ys := ys) (n := xs.length) (by rw [e, Nat.min_self])) (Pv D) (h0 D hD) (fun i H' hi hp => hl D i H' hD hi hp) (fun i x H1 H' _ hp y => by
    obtain ⟨t, u, v, rfl, ht, rfl, hu, hv⟩ := y
    exact hs D i u v H1 t hD hu hv hp ht) (fun H' hp => hd D H' hD hp)⟩
/-! targets of several names -/
theorem u_gt {n : Nat} {t : TGs} {p : Addr} {xs : List V} (hs : SqT K H p xs) (hn : xs.length = n) (h : t xs σ H nx) : gTup K n t (.ref p) σ H nx := ⟨p, xs, rfl, hs, hn, h⟩
theorem u_gc {v : V} {r : List V} {t : TG} {u : TGs} (h : t v σ H fun σ' H' => u r σ' H' nx) : gCons t u (v :: r) σ H nx := ⟨v, r, rfl, h⟩
theorem u_g0 (h : nx σ H) : gNil [] σ H nx := ⟨rfl, h⟩
end
/-! ### objects -/
section
variable {σ : L2.St} {H : Hp} {K : PySem.W.Frag} {nx : L2.St → Hp → Prop} {rt Q : VK} {bk ct : L2.St → Hp → Prop} {te ta tv : TE} {v x y : V}
theorem u_dnewK (h : ∀ p, H p = none → Q (.ref p) (upd H p (.dK []))) : tDNewK σ H Q := h
theorem u_dnewT (h : ∀ p, H p = none → Q (.ref p) (upd H p (.dT []))) : tDNewT σ H Q := h
def RPut (y v x : V) (H3 : Hp) (N : Hp → Prop) : Prop := ∃ a H4, x = .ref a ∧ DPut H3 a y v H4 ∧ N H4
theorem u_dput {td ty : TE} (h : tv σ H fun v H1 => td σ H1 fun x H2 => ty σ H2 fun y H3 => RPut y v x H3 (nx σ)) : sDPut td ty tv ⟨nx, rt, bk, ct⟩ σ H := h
theorem u_putI {a : Addr} {kvs : List (Key × V)} {i : Int} {N : Hp → Prop} (h : H a = some (.dK kvs)) (hl : kvs.length < sizeLine) (q : N (upd H a (.dK (putK kvs (.inl i) v)))) : RPut (.int i) v (.ref a) H N := ⟨a, _, rfl, DPut.k (k := .inl i) h hl, q⟩
theorem u_putT {a b : Addr} {kvs : List (List Key × V)} {k : List Key} {N : Hp → Prop} (h : H a = some (.dT kvs)) (hb : H b = some (.tup (k.map kV))) (hl : kvs.length < sizeLine) (q : N (upd H a (.dT (putK kvs k v)))) : RPut (.ref b) v (.ref a) H N := ⟨a, _, rfl, DPut.t h hb hl, q⟩
def RGet (x y : V) (H2 : Hp) (Q : VK) : Prop := ∃ a v, x = .ref a ∧ DGet H2 a y (some v) ∧ Q v H2
theorem u_dget {td ty : TE} (h : td σ H fun x H1 => ty σ H1 fun y H2 => RGet x y H2 Q) : tDGet td ty σ H Q := h
theorem u_getI {a : Addr} {kvs : List (Key × V)} {i : Int} (h : H a = some (.dK kvs)) (hv : valV kvs (.inl i) = some v) (q : Q v H) : RGet (.ref a) (.int i) H Q := ⟨a, v, rfl, by have := DGet.k (k := .inl i) h; rw [hv] at this; exact this, q⟩
def RIn (y x : V) (H2 : Hp) (Q : VK) : Prop := ∃ a o, x = .ref a ∧ DGet H2 a y o ∧ Q (.bl o.isSome) H2
theorem u_din {td ty : TE} (h : ty σ H fun y H1 => td σ H1 fun x H2 => RIn y x H2 Q) : tDIn ty td σ H Q := h
theorem u_inT {a b : Addr} {kvs : List (List Key × V)} {k : List Key} (h : H a = some (.dT kvs)) (hb : H b = some (.tup (k.map kV))) (q : Q (.bl (valV kvs k).isSome) H) : RIn (.ref b) (.ref a) H Q := ⟨a, _, rfl, DGet.t h hb, q⟩
def RNin (y x : V) (H2 : Hp) (Q : VK) : Prop := ∃ a o, x = .ref a ∧ DGet H2 a y o ∧ Q (.bl (!o.isSome)) H2
theorem u_dnin {td ty : TE} (h : ty σ H fun y H1 => td σ H1 fun x H2 => RNin y x H2 Q) : tDNotIn ty td σ H Q := h
theorem u_ninI {a : Addr} {kvs : List (Key × V)} {i : Int} (h : H a = some (.dK kvs)) (q : Q (.bl (!(valV kvs (.inl i)).isSome)) H) : RNin (.int i) (.ref a) H Q := ⟨a, _, rfl, DGet.k (k := .inl i) h, q⟩
def RMethS (C : Addr) (m : Str) (sp : Sp) (E : XK) (t : TA) (σ : L2.St) (Q : VK) (x : V) (H1 : Hp) : Prop := ∃ a dx fs, x = .ref a ∧ H1 a = some (.ins C dx fs) ∧ fs.lookup m = none ∧ t σ H1 fun vs H2 => sp (x :: vs) H2 Q E
theorem u_methS {C : Addr} {m : Str} {sp : Sp} {E : L2.St → XK} {t : TA} (h : ta σ H fun x H1 => RMethS C m sp (E σ) t σ Q x H1) : tMethS C m sp E ta t σ H Q := h
def RMake (C : Addr) (sp : Sp) (dvs : List V) (E : XK) (Q : VK) (vs : List V) (H1 : Hp) : Prop := ∀ x dx, H1 x = none → H1 dx = none → dx ≠ x → sp (.ref x :: (vs ++ dvs)) (upd (upd H1 dx (.own x)) x (.ins C dx [])) (fun v H2 => v = .non ∧ Q (.ref x) H2) E
theorem u_make {C : Addr} {sp : Sp} {dvs : List V} {E : XK} {t : TA} (h : t σ H fun vs H1 => RMake C sp dvs E Q vs H1) : tMake C sp dvs E t σ H Q := h
def RXf (a : Addr) (cls : Value) (d : Option Addr) (C : Addr) (f : Str) (x : V) (H1 : Hp) (Q : VK) : Prop := x = .ref a ∧ cls = .ref C ∧ ∃ (dd : Addr) (fs : List (Str × V)) (v : V), d = some dd ∧ H1 dd = some (.xd fs) ∧ fs.lookup f = some v ∧ Q v H1
theorem u_xf {a : Addr} {cls : Value} {d : Option Addr} {C : Addr} {f : Str} (h : te σ H fun x H1 => RXf a cls d C f x H1 Q) : tXf a cls d C f te σ H Q := h
theorem u_listD {p : Addr} {kvs : List (Key × V)} (h : H p = some (.dK kvs)) (k : ∀ q, H q = none → Q (.ref q) (upd H q (.lst (kvs.map fun kv => kV kv.1)))) : rListD [.ref p] H Q := ⟨p, kvs, rfl, h, k⟩
def RFld (K : PySem.W.Frag) (f : Str) (x : V) (H1 : Hp) (Q : VK) : Prop := ∃ a C dx fs v, x = .ref a ∧ H1 a = some (.ins C dx fs) ∧ Cls K C ∧ NoAttr K C f ∧ fs.lookup f = some v ∧ Q v H1
theorem u_fld {f : Str} (h : ta σ H fun x H1 => RFld K f x H1 Q) : tFld K ta f σ H Q := h
theorem u_fldv {f : Str} {a C dx : Addr} {fs : List (Str × V)} (h1 : H a = some (.ins C dx fs)) (c : Cls K C) (n : NoAttr K C f) (l : fs.lookup f = some v) (h : Q v H) : RFld K f (.ref a) H Q := ⟨a, C, dx, fs, v, rfl, h1, c, n, l, h⟩
def RSet (K : PySem.W.Frag) (f : Str) (y x : V) (H2 : Hp) (N : Hp → Prop) : Prop := ∃ a C dx fs, x = .ref a ∧ H2 a = some (.ins C dx fs) ∧ Cls K C ∧ NoAttr K C f ∧ fs.length < 1000 ∧ N (upd H2 a (.ins C dx (putF f y fs)))
theorem u_sfld {f : Str} (h : tv σ H fun y H1 => ta σ H1 fun x H2 => RSet K f y x H2 (nx σ)) : sFld K ta tv f ⟨nx, rt, bk, ct⟩ σ H := h
theorem u_setv {f : Str} {a C dx : Addr} {fs : List (Str × V)} {N : Hp → Prop} (h1 : H a = some (.ins C dx fs)) (c : Cls K C) (n : NoAttr K C f) (l : fs.length < 1000) (h : N (upd H a (.ins C dx (putF f y fs)))) : RSet K f y (.ref a) H N := ⟨a, C, dx, fs, rfl, h1, c, n, l, h⟩
def RMeth (C : Addr) (m : Str) (sp : Sp) (dvs : List V) (E : XK) (t : TA) (σ : L2.St) (Q : VK) (x : V) (H1 : Hp) : Prop := ∃ a dx fs, x = .ref a ∧ H1 a = some (.ins C dx fs) ∧ fs.lookup m = none ∧ t σ H1 fun vs H2 => sp (x :: (vs ++ dvs)) H2 Q E
theorem u_meth {C : Addr} {m : Str} {sp : Sp} {dvs : List V} {E : XK} {t : TA} (h : ta σ H fun x H1 => RMeth C m sp dvs E t σ Q x H1) : tMeth C m sp dvs E ta t σ H Q := h
theorem u_methv {a C dx : Addr} {fs : List (Str × V)} {m : Str} {sp : Sp} {dvs : List V} {E : XK} {t : TA} (h1 : H a = some (.ins C dx fs)) (l : fs.lookup m = none) (h : t σ H fun vs H2 => sp (.ref a :: (vs ++ dvs)) H2 Q E) : RMeth C m sp dvs E t σ Q (.ref a) H := ⟨a, dx, fs, rfl, h1, l, h⟩
/-- raise .. -/
def tRz (W : WX) (t : L2.St → Hp → XK → Prop) : TS := fun _ σ H => t σ H fun cls d H' => W cls d σ H'
theorem ps_rz {X : Cx} {W : WX} {e : Expr} {t : L2.St → Hp → XK → Prop} {pos : Pos} (hc : X.calm = true) (tk : Takes X W) (he : PMk X e t) : PS X (.Raise (some e) none pos) (tRz W t) := ps_raise hc tk he
def RMk (C : Addr) (sp : Sp) (dvs : List V) (Q : XK) (vs : List V) (H1 : Hp) : Prop := vs.length ≤ 1000 ∧ ∀ a, H1 a = none → sp (.ref a :: (vs ++ dvs)) (upd H1 a (exo a C none))
  (fun v H2 => v = .non ∧ ∃ (d : Addr) (fs : List (Str × V)), H2 a = some (exo a C (some d)) ∧ H2 d = some (exd d fs) ∧ H1 d = none ∧ Q (.ref C) (some d) (upd (del H2 a) d (.xd fs))) (fun _ _ _ => False)
theorem u_rz {W : WX} {C : Addr} {sp : Sp} {dvs : List V} {tr : TA} {D : Ends} (h : tr σ H fun vs H1 => RMk C sp dvs (fun cls d H' => W cls d σ H') vs H1) : tRz W (tMkO C sp dvs tr) D σ H := h
end
theorem id_seq {t u : TS} {D : Ends} {σ : L2.St} {H : Hp} (h : tSeq t u D σ H) : tSeq t u D σ H := h
theorem id_if {tt : TT} {t u : TS} {D : Ends} {σ : L2.St} {H : Hp} (h : tIfS tt t u D σ H) : tIfS tt t u D σ H := h
/-- what is wanted behind a statement, told once -/
theorem u_cut {t : TS} {σ : L2.St} {H : Hp} {nx : L2.St → Hp → Prop} {rt : VK} {bk ct : L2.St → Hp → Prop} (P : L2.St → Hp → Prop) (h : ∀ nx' : L2.St → Hp → Prop, (∀ σ' H', P σ' H' → nx' σ' H') → t ⟨nx', rt, bk, ct⟩ σ H) (k : ∀ σ' H', P σ' H' → nx σ' H') : t ⟨nx, rt, bk, ct⟩ σ H := h nx k
/-- a test's answer told at once -/
theorem tt_cut {tt : TT} {σ : L2.St} {H : Hp} {QT : Bool → Hp → Prop} (b : Bool) (h : ∀ Q : Bool → Hp → Prop, (∀ H2 c, Same H H2 → c = b → Q c H2) → tt σ H Q) (k : ∀ H2, Same H H2 → QT b H2) : tt σ H QT := h QT fun H2 c s e => by rw [e]; exact k H2 s
theorem te_cut {te : TE} {σ : L2.St} {H : Hp} {Q : VK} (v : V) (h : ∀ Q : VK, (∀ H2 u, Same H H2 → u = v → Q u H2) → te σ H Q) (k : ∀ H2, Same H H2 → Q v H2) : te σ H Q := h Q fun H2 c s e => by rw [e]; exact k H2 s
theorem ite_d {c A B : Prop} [Decidable c] (h1 : c → A) (h2 : ¬ c → B) : if decide c = true then A else B := by
  by_cases h : c
  · rw [if_pos (decide_eq_true h)]; exact h1 h
  · rw [if_neg (by rw [decide_eq_false h]; exact Bool.false_ne_true)]; exact h2 h
theorem ite_b {b : Bool} {A B : Prop} (h1 : b = true → A) (h2 : b = false → B) : if b = true then A else B := by
  cases b with
  | true => exact h1 rfl
  | false => exact h2 rfl
theorem ite_t {A B : Prop} (h : A) : if true = true then A else B := h
theorem ite_f {A B : Prop} (h : B) : if false = true then A else B := h
theorem ite_nt {A B : Prop} (h : B) : if (!true) = true then A else B := h
theorem ite_nf {A B : Prop} (h : A) : if (!false) = true then A else B := h
theorem ite_nd {c A B : Prop} [Decidable c] (h1 : ¬ c → A) (h2 : c → B) : if (!decide c) = true then A else B := by
  by_cases h : c
  · rw [if_neg (by rw [decide_eq_true h]; exact Bool.false_ne_true)]; exact h2 h
  · rw [if_pos (by rw [decide_eq_false h]; rfl)]; exact h1 h
theorem ite_nb {b : Bool} {A B : Prop} (h1 : b = false → A) (h2 : b = true → B) : if (!b) = true then A else B := by
  cases b with
  | true => exact h2 rfl
  | false => exact h1 rfl
end Sr
/-! # A written dict of whole numbers -/
namespace Sr
open PySem PySem.Spec PyProof.Rows L2
inductive EntI : List DictEntry → List (Int × Int) → Prop
  | nil : EntI [] []
  | cons {h k v : Int} {t u : Tok} {es : List DictEntry} {kvs : List (Int × Int)} (e : h = hashInt k) (r : EntI es kvs) : EntI (⟨h, .int k t, .int v u⟩ :: es) ((k, v) :: kvs)
structure KDctI (K : PySem.W.Frag) (a : Addr) (kvs : List (Int × Int)) : Prop where
  low : (a == sysModules) = false
  ex : ∃ es n, K.lookup a = some ⟨.type "dict", none, .dict es n, #[]⟩ ∧ EntI es.toList kvs
theorem EntI.keys {es : List DictEntry} {kvs : List (Int × Int)} (r : EntI es kvs) : ∀ e ∈ es, ∃ k, Value.isInt k e.key = true ∧ e.hash = hashInt k := by
  induction r with
  | nil => exact fun e he => (nomatch he)
  | cons e r ih =>
    rename_i k v t u es kvs
    intro d hd
    rcases List.mem_cons.mp hd with rfl | hd
    · exact ⟨k, by simp [Value.isInt], e⟩
    · exact ih d hd
theorem EntI.find {es : List DictEntry} {kvs : List (Int × Int)} (r : EntI es kvs) (x : Int) : (kvs.lookup x = none ∧ (es.find? fun e => Value.isInt x e.key) = none) ∨ ∃ v e u, kvs.lookup x = some v ∧ (es.find? fun e => Value.isInt x e.key) = some e ∧ e.val = .int v u := by
  induction r with
  | nil => exact Or.inl ⟨rfl, rfl⟩
  | cons e r ih =>
    rename_i h k v t u es kvs
    by_cases c : x = k
    · subst c
      refine Or.inr ⟨v, ⟨h, .int x t, .int v u⟩, u, ?_, ?_, rfl⟩
      · have e2 : (x == x) = true := beq_self_eq_true x
        simp only [List.lookup, e2]
      · rw [List.find?_cons_of_pos]
        simp [Value.isInt]
    · have e2 : (x == k) = false := by rw [beq_eq_false_iff_ne]; exact c
      have e3 : ¬ Value.isInt x (.int k t) = true := by simp [Value.isInt]; exact fun z => c z.symm
      rw [List.find?_cons_of_neg (p := fun e : DictEntry => Value.isInt x e.key) (a := ⟨h, .int k t, .int v u⟩) e3]
      simp only [List.lookup, e2]
      exact ih
theorem KDctI.map {P : Program} {w : World} {K : PySem.W.Frag} {a : Addr} {kvs : List (Int × Int)} {h : Heap} (d : KDctI K a kvs) (X : K.In h) : ∃ f : Int → Option Value, h.MapOf (intKind P w) a f ∧ ∀ x, (kvs.lookup x = none ∧ f x = none) ∨ ∃ v u, kvs.lookup x = some v ∧ f x = some (.int v u) := by
  obtain ⟨es, n, hl, r⟩ := d.ex
  refine ⟨fun k => findBy Value.isInt es k, ⟨_, es, n, X _ _ hl, ⟨rfl, rfl, rfl⟩, rfl, fun e he => r.keys e (Array.mem_toList_iff.mpr he), fun _ => rfl⟩, fun x => ?_⟩
  obtain ⟨l⟩ := es
  have q := r.find x
  have e0 : findBy Value.isInt ⟨l⟩ x = (l.find? fun e => Value.isInt x e.key).map (·.val) := by
    unfold findBy
    rw [List.find?_toArray]
  show (kvs.lookup x = none ∧ findBy Value.isInt ⟨l⟩ x = none) ∨ ∃ v u, kvs.lookup x = some v ∧ findBy Value.isInt ⟨l⟩ x = some (.int v u)
  rw [e0]
  have q : (kvs.lookup x = none ∧ (l.find? fun e => Value.isInt x e.key) = none) ∨ ∃ v e u, kvs.lookup x = some v ∧ (l.find? fun e => Value.isInt x e.key) = some e ∧ e.val = .int v u := q
  rcases q with ⟨h1, h2⟩ | ⟨v, e, u, h1, h2, h3⟩
  · exact Or.inl ⟨h1, by rw [h2]; rfl⟩
  · exact Or.inr ⟨v, u, h1, by rw [h2]; show some e.val = _; rw [h3]⟩
def rIxDI (K : PySem.W.Frag) : R2 := fun x y H Q => ∃ p k v kvs, x = .ref p ∧ y = .int k ∧ KDctI K p kvs ∧ kvs.lookup k = some v ∧ Q (.int v) H
theorem ixDI {X : Cx} (K : PySem.W.Frag) (hK : X.K = K := by rfl) : IxR X (rIxDI K) := by
  subst hK
  intro value slice pins s σ H x y v u Q I rx ry h hs
  obtain ⟨p, k, r, kvs, rfl, rfl, d, e, q⟩ := h
  obtain rfl : v = Value.ref p := rx
  obtain ⟨t, rfl⟩ := ry
  obtain ⟨f, hm, hf⟩ := d.map (P := X.prog) (w := X.w) I.kIn
  rcases hf k with ⟨h1, _⟩ | ⟨v, u, h1, h2⟩
  · rw [e] at h1; cases h1
  · rw [e] at h1
    cases h1
    exact tail_any hm.typeIs slot_dict_getitem.lookup (wpAny_getItem_of (intKind_is X.prog X.w k t) hm h2 ⟨.int r, H, I.tok _, ⟨u, rfl⟩, q⟩) hs
def rNinDI (K : PySem.W.Frag) : R2 := fun x y H Q => ∃ p k kvs, y = .ref p ∧ x = .int k ∧ KDctI K p kvs ∧ Q (.bl (!(kvs.lookup k).isSome)) H
theorem ninDI {X : Cx} (K : PySem.W.Frag) (hK : X.K = K := by rfl) : OpR X (compareOp .NotIn) (rNinDI K) := by
  subst hK
  intro pins s σ H x y v u Q I rx ry h
  obtain ⟨p, k, kvs, rfl, rfl, d, q⟩ := h
  obtain rfl : u = Value.ref p := ry
  obtain ⟨t, rfl⟩ := rx
  obtain ⟨f, hm, hf⟩ := d.map (P := X.prog) (w := X.w) I.kIn
  refine wpAny_notIn_of (intKind_is X.prog X.w k t) d.low hm ?_
  have e : (f k).isSome = (kvs.lookup k).isSome := by
    rcases hf k with ⟨h1, h2⟩ | ⟨v, u, h1, h2⟩
    · rw [h1, h2]; rfl
    · rw [h1, h2]; rfl
  rw [e]
  exact ⟨.bl _, H, I.tok _, rfl, q⟩
abbrev KindsAt (K : PySem.W.Frag) (a : Addr) : Prop := KDctI K a [(43, 1), (45, 2), (46, 3)]
theorem u_ixDI {K : PySem.W.Frag} {H : Hp} {Q : VK} {p : Addr} {k v : Int} {kvs : List (Int × Int)} (d : KDctI K p kvs) (e : kvs.lookup k = some v) (h : Q (.int v) H) : rIxDI K (.ref p) (.int k) H Q := ⟨p, k, v, kvs, rfl, rfl, d, e, h⟩
theorem u_ninDI {K : PySem.W.Frag} {H : Hp} {Q : VK} {p : Addr} {k : Int} {kvs : List (Int × Int)} (d : KDctI K p kvs) (h : Q (.bl (!(kvs.lookup k).isSome)) H) : rNinDI K (.int k) (.ref p) H Q := ⟨p, k, kvs, rfl, rfl, d, h⟩
/-! ### written tuples -/
structure TupAt (K : PySem.W.Frag) (a : Addr) (xs : List V) : Prop where
  ex : ∃ (o : Obj) (its : Array Value) (n : Nat), K.lookup a = some o ∧ o.cls = .type "tuple" ∧ o.data = .seq its n ∧ its.size ≤ sizeLine ∧ Vals xs its.toList
theorem TupAt.sq {K : PySem.W.Frag} {a : Addr} {xs : List V} (h : TupAt K a xs) (H : Hp) : SqT K H a xs := Or.inr h.ex
theorem tup_of {K : PySem.W.Frag} {a : Addr} {xs : List V} {od : Option Addr} {its : Array Value} {n : Nat} {osl : Array (Option Value)} (l : K.lookup a = some ⟨.type "tuple", od, .seq its n, osl⟩) (z : its.size ≤ sizeLine) (v : Vals xs its.toList) : TupAt K a xs := ⟨_, _, _, l, rfl, rfl, z, v⟩
abbrev MarksAt (K : PySem.W.Frag) (a : Addr) : Prop := TupAt K a [.int 0, .int 43, .int 45, .int 46]
inductive PairsAt (K : PySem.W.Frag) : List V → List (Int × Int) → Prop
  | nil : PairsAt K [] []
  | cons {p : Addr} {a b : Int} {vs : List V} {ps : List (Int × Int)} (h : TupAt K p [.int a, .int b]) (r : PairsAt K vs ps) : PairsAt K (.ref p :: vs) ((a, b) :: ps)
def signsL : List (Int × Int) := [(33, 47), (58, 64), (91, 96), (123, 126), (161, 191), (215, 215), (247, 247), (8208, 8303), (12288, 12351)]
def SignsAt (K : PySem.W.Frag) (a : Addr) : Prop := ∃ vs, TupAt K a vs ∧ PairsAt K vs signsL
end Sr
/-! ## Characters: the program's reading of one, against the specification's -/
namespace Sm
open Fh
def furtherM (i : Int) : Int := if 32 ≤ i ∧ i ≤ 126 then 0 else if 194 ≤ i ∧ i ≤ 223 then 1 else if 224 ≤ i ∧ i ≤ 239 then 2 else if 240 ≤ i ∧ i ≤ 244 then 3 else -1
def leastM : Bytes → Int
  | [c] => if c.toNat = 194 ∨ c.toNat = 224 then 160 else if c.toNat = 240 then 144 else 128
  | _ => 128
def mostM : Bytes → Int
  | [c] => if c.toNat = 237 then 159 else if c.toNat = 244 then 143 else 191
  | [c, d] => if c.toNat = 239 ∧ d.toNat = 191 then 189 else 191
  | [_, d, e] => if d.toNat % 16 = 15 ∧ e.toNat = 191 then 189 else 191
  | _ => 191
def codeM : Bytes → Int
  | [] => 0
  | [c] => c.toNat
  | [c, d] => (c.toNat - 192) * 64 + d.toNat - 128
  | [c, d, e] => ((c.toNat - 224) * 64 + d.toNat - 128) * 64 + e.toNat - 128
  | [c, d, e, f] => (((c.toNat - 240) * 64 + d.toNat - 128) * 64 + e.toNat - 128) * 64 + f.toNat - 128
  | _ => 0
def charLoop : Nat → Bytes → Bytes → Except Nat Int
  | 0, got, _ => .ok (codeM got)
  | _ + 1, got, [] => .error got.length
  | m + 1, got, c :: r => if leastM got ≤ c.toNat ∧ (c.toNat : Int) ≤ mostM got then charLoop m (got ++ [c]) r else .error got.length
def charM : Bytes → Except Nat (Int × Nat)
  | [] => .error 0
  | c :: r => if furtherM c.toNat < 0 then .error 0 else match charLoop (furtherM c.toNat).toNat [c] r with
    | .ok v => .ok (v, (furtherM c.toNat).toNat + 1)
    | .error k => .error k
theorem byte_lt (c : UInt8) : c.toNat < 256 := c.toNat_lt
/-- one more byte: n bytes in all, behind k -/
theorem step21 {c d : Nat} (hc : 194 ≤ c ∧ c ≤ 223) (hd : d < 256) : (d / 64 = 2 ∧ mayBe 2 2 (c % 32 * 64 + d % 64) = true) ↔ ((if c = 194 ∨ c = 224 then (160 : Int) else if c = 240 then 144 else 128) ≤ d ∧ (d : Int) ≤ (if c = 237 then 159 else if c = 244 then 143 else 191)) := by
  unfold mayBe leastOf mostOf nextChar
  simp only [Nat.sub_self, Nat.pow_zero, Nat.mul_one, decide_eq_true_eq, Nat.reduceEqDiff, if_false, if_true, Nat.add_zero]
  rw [Nat.max_def, Nat.min_def]
  (repeat' split) <;> omega
theorem step31 {c d : Nat} (hc : 224 ≤ c ∧ c ≤ 239) (hd : d < 256) : (d / 64 = 2 ∧ mayBe 3 2 (c % 16 * 64 + d % 64) = true) ↔ ((if c = 194 ∨ c = 224 then (160 : Int) else if c = 240 then 144 else 128) ≤ d ∧ (d : Int) ≤ (if c = 237 then 159 else if c = 244 then 143 else 191)) := by
  unfold mayBe leastOf mostOf nextChar
  simp only [Nat.reduceSub, Nat.reducePow, decide_eq_true_eq, Nat.reduceEqDiff, if_false, if_true]
  rw [Nat.max_def, Nat.min_def]
  (repeat' split) <;> omega
theorem step41 {c d : Nat} (hc : 240 ≤ c ∧ c ≤ 244) (hd : d < 256) : (d / 64 = 2 ∧ mayBe 4 2 (c % 8 * 64 + d % 64) = true) ↔ ((if c = 194 ∨ c = 224 then (160 : Int) else if c = 240 then 144 else 128) ≤ d ∧ (d : Int) ≤ (if c = 237 then 159 else if c = 244 then 143 else 191)) := by
  unfold mayBe leastOf mostOf nextChar
  simp only [Nat.reduceSub, Nat.reducePow, decide_eq_true_eq, Nat.reduceEqDiff, if_false, if_true]
  rw [Nat.max_def, Nat.min_def]
  (repeat' split) <;> omega
theorem step32 {c d e : Nat} (hc : 224 ≤ c ∧ c ≤ 239) (hd : 128 ≤ d ∧ d ≤ 191) (h0 : c = 224 → 160 ≤ d) (h1 : c = 237 → d ≤ 159) (he : e < 256) :
    (e / 64 = 2 ∧ mayBe 3 3 ((c % 16 * 64 + d % 64) * 64 + e % 64) = true) ↔ ((128 : Int) ≤ e ∧ (e : Int) ≤ (if c = 239 ∧ d = 191 then 189 else 191)) := by
  unfold mayBe leastOf mostOf nextChar
  simp only [Nat.sub_self, Nat.pow_zero, Nat.mul_one, decide_eq_true_eq, Nat.reduceEqDiff, if_false, if_true, Nat.add_zero]
  rw [Nat.max_def, Nat.min_def]
  (repeat' split) <;> omega
theorem step42 {c d e : Nat} (hc : 240 ≤ c ∧ c ≤ 244) (hd : 128 ≤ d ∧ d ≤ 191) (h0 : c = 240 → 144 ≤ d) (h1 : c = 244 → d ≤ 143) (he : e < 256) :
    (e / 64 = 2 ∧ mayBe 4 3 ((c % 8 * 64 + d % 64) * 64 + e % 64) = true) ↔ ((128 : Int) ≤ e ∧ (e : Int) ≤ (if c = 239 ∧ d = 191 then 189 else 191)) := by
  unfold mayBe leastOf mostOf nextChar
  simp only [Nat.reduceSub, Nat.reducePow, decide_eq_true_eq, Nat.reduceEqDiff, if_false, if_true]
  rw [Nat.max_def, Nat.min_def]
  (repeat' split) <;> omega
theorem step43 {c d e f : Nat} (hc : 240 ≤ c ∧ c ≤ 244) (hd : 128 ≤ d ∧ d ≤ 191) (h0 : c = 240 → 144 ≤ d) (h1 : c = 244 → d ≤ 143) (he : 128 ≤ e ∧ e ≤ 191) (hf : f < 256) :
    (f / 64 = 2 ∧ mayBe 4 4 (((c % 8 * 64 + d % 64) * 64 + e % 64) * 64 + f % 64) = true) ↔ ((128 : Int) ≤ f ∧ (f : Int) ≤ (if d % 16 = 15 ∧ e = 191 then 189 else 191)) := by
  unfold mayBe leastOf mostOf nextChar
  simp only [Nat.sub_self, Nat.pow_zero, Nat.mul_one, decide_eq_true_eq, Nat.reduceEqDiff, if_false, if_true, Nat.add_zero]
  rw [Nat.max_def, Nat.min_def]
  (repeat' split) <;> omega
end Sm
namespace Sm
open Fh
/-- the first byte -/
theorem step0 {c : Nat} (hc : c < 256) : (lengthBy c = 0 ∨ mayBe (lengthBy c) 1 (headOf (lengthBy c) c) = false) ↔ furtherM c < 0 := by
  have h : ∀ c : Fin 256, (decide (lengthBy c.1 = 0) || !mayBe (lengthBy c.1) 1 (headOf (lengthBy c.1) c.1)) = decide (furtherM c.1 < 0) := by decide +kernel
  have h2 := h ⟨c, hc⟩
  simp only at h2
  have e : (decide (lengthBy c = 0) || !mayBe (lengthBy c) 1 (headOf (lengthBy c) c)) = true ↔ (lengthBy c = 0 ∨ mayBe (lengthBy c) 1 (headOf (lengthBy c) c) = false) := by simp
  rw [← e, h2, decide_eq_true_eq]
theorem len_further {c : Nat} (hc : c < 256) (h : ¬ furtherM c < 0) : (furtherM c).toNat + 1 = lengthBy c := by
  have h1 : ∀ c : Fin 256, (decide (furtherM c.1 < 0) || decide ((furtherM c.1).toNat + 1 = lengthBy c.1)) = true := by decide +kernel
  have h2 := h1 ⟨c, hc⟩
  simp only [Bool.or_eq_true, decide_eq_true_eq] at h2
  exact h2.resolve_left h
theorem further_cases {c : Int} (h : ¬ furtherM c < 0) : (furtherM c = 0 ∧ 32 ≤ c ∧ c ≤ 126) ∨ (furtherM c = 1 ∧ 194 ≤ c ∧ c ≤ 223) ∨ (furtherM c = 2 ∧ 224 ≤ c ∧ c ≤ 239) ∨ (furtherM c = 3 ∧ 240 ≤ c ∧ c ≤ 244) := by
  unfold furtherM at h ⊢
  (repeat' split) <;> first | omega | (exfalso; omega) | skip
  all_goals simp_all
  all_goals omega
theorem goOn_done {f n v : Nat} {b : Bytes} : goOn (f + 1) n n v b = .ok v := by simp [goOn]
theorem goOn_nil {f n k v : Nat} (h : k ≠ n) : goOn (f + 1) n k v [] = .error k := by simp [goOn, h]
theorem goOn_yes {f n k v : Nat} {c : UInt8} {r : Bytes} (h : k ≠ n) (y : c.toNat / 64 = 2 ∧ mayBe n (k + 1) (v * 64 + c.toNat % 64) = true) : goOn (f + 1) n k v (c :: r) = goOn f n (k + 1) (v * 64 + c.toNat % 64) r := by
  rw [goOn, if_neg h]
  exact if_pos y
theorem goOn_no {f n k v : Nat} {c : UInt8} {r : Bytes} (h : k ≠ n) (y : ¬ (c.toNat / 64 = 2 ∧ mayBe n (k + 1) (v * 64 + c.toNat % 64) = true)) : goOn (f + 1) n k v (c :: r) = .error k := by
  rw [goOn, if_neg h]
  exact if_neg y
def exI (x : Except Nat Nat) : Except Nat Int := match x with
  | .ok v => .ok v
  | .error k => .error k
theorem loop2 (c : UInt8) (r : Bytes) (hc : 194 ≤ c.toNat ∧ c.toNat ≤ 223) : charLoop 1 [c] r = exI (goOn 4 2 1 (c.toNat % 32) r) := by
  cases r with
  | nil => rw [goOn_nil (by decide)]; rfl
  | cons d r =>
    have hd := byte_lt d
    have st := step21 hc hd
    by_cases y : d.toNat / 64 = 2 ∧ mayBe 2 2 (c.toNat % 32 * 64 + d.toNat % 64) = true
    · rw [goOn_yes (by decide) y, goOn_done]
      have z := st.mp y
      have zT : leastM [c] ≤ d.toNat ∧ (d.toNat : Int) ≤ mostM [c] := z
      show (if leastM [c] ≤ d.toNat ∧ (d.toNat : Int) ≤ mostM [c] then charLoop 0 [c, d] r else .error 1) = _
      rw [if_pos zT]
      show Except.ok (codeM [c, d]) = Except.ok (((c.toNat % 32 * 64 + d.toNat % 64 : Nat)) : Int)
      congr 1
      show ((c.toNat : Int) - 192) * 64 + d.toNat - 128 = _
      omega
    · rw [goOn_no (by decide) y]
      have z := fun q => y (st.mpr q)
      show (if leastM [c] ≤ d.toNat ∧ (d.toNat : Int) ≤ mostM [c] then charLoop 0 [c, d] r else .error 1) = _
      exact if_neg z
theorem loop3 (c : UInt8) (r : Bytes) (hc : 224 ≤ c.toNat ∧ c.toNat ≤ 239) : charLoop 2 [c] r = exI (goOn 4 3 1 (c.toNat % 16) r) := by
  cases r with
  | nil => rw [goOn_nil (by decide)]; rfl
  | cons d r =>
    have hd := byte_lt d
    have st := step31 hc hd
    by_cases y : d.toNat / 64 = 2 ∧ mayBe 3 2 (c.toNat % 16 * 64 + d.toNat % 64) = true
    · rw [goOn_yes (by decide) y]
      have z := st.mp y
      have zT : leastM [c] ≤ d.toNat ∧ (d.toNat : Int) ≤ mostM [c] := z
      show (if leastM [c] ≤ d.toNat ∧ (d.toNat : Int) ≤ mostM [c] then charLoop 1 [c, d] r else .error 1) = _
      rw [if_pos zT]
      have z0 : 128 ≤ d.toNat ∧ d.toNat ≤ 191 := by omega
      have z1 : c.toNat = 224 → 160 ≤ d.toNat := fun q => by
        have := z.1; rw [if_pos (Or.inr q)] at this; omega
      have z2 : c.toNat = 237 → d.toNat ≤ 159 := fun q => by
        have := z.2; rw [if_pos q] at this; omega
      cases r with
      | nil => rw [goOn_nil (by decide)]; rfl
      | cons e r =>
        have st2 := step32 hc z0 z1 z2 (byte_lt e)
        by_cases y2 : e.toNat / 64 = 2 ∧ mayBe 3 3 ((c.toNat % 16 * 64 + d.toNat % 64) * 64 + e.toNat % 64) = true
        · rw [goOn_yes (by decide) y2, goOn_done]
          have w := st2.mp y2
          show (if leastM [c, d] ≤ e.toNat ∧ (e.toNat : Int) ≤ mostM [c, d] then charLoop 0 [c, d, e] r else .error 2) = _
          rw [if_pos (show leastM [c, d] ≤ e.toNat ∧ (e.toNat : Int) ≤ mostM [c, d] from w)]
          show Except.ok (codeM [c, d, e]) = Except.ok ((((c.toNat % 16 * 64 + d.toNat % 64) * 64 + e.toNat % 64 : Nat)) : Int)
          congr 1
          show (((c.toNat : Int) - 224) * 64 + d.toNat - 128) * 64 + e.toNat - 128 = _
          have w2 : (e.toNat : Int) ≤ 191 := Int.le_trans w.2 (by split <;> omega)
          have w1 := w.1
          omega
        · rw [goOn_no (by decide) y2]
          have w := fun q => y2 (st2.mpr q)
          show (if leastM [c, d] ≤ e.toNat ∧ (e.toNat : Int) ≤ mostM [c, d] then charLoop 0 [c, d, e] r else .error 2) = _
          exact if_neg w
    · rw [goOn_no (by decide) y]
      have z := fun q => y (st.mpr q)
      show (if leastM [c] ≤ d.toNat ∧ (d.toNat : Int) ≤ mostM [c] then charLoop 1 [c, d] r else .error 1) = _
      exact if_neg z
theorem loop4 (c : UInt8) (r : Bytes) (hc : 240 ≤ c.toNat ∧ c.toNat ≤ 244) : charLoop 3 [c] r = exI (goOn 4 4 1 (c.toNat % 8) r) := by
  cases r with
  | nil => rw [goOn_nil (by decide)]; rfl
  | cons d r =>
    have hd := byte_lt d
    have st := step41 hc hd
    by_cases y : d.toNat / 64 = 2 ∧ mayBe 4 2 (c.toNat % 8 * 64 + d.toNat % 64) = true
    · rw [goOn_yes (by decide) y]
      have z := st.mp y
      have zT : leastM [c] ≤ d.toNat ∧ (d.toNat : Int) ≤ mostM [c] := z
      show (if leastM [c] ≤ d.toNat ∧ (d.toNat : Int) ≤ mostM [c] then charLoop 2 [c, d] r else .error 1) = _
      rw [if_pos zT]
      have z0 : 128 ≤ d.toNat ∧ d.toNat ≤ 191 := by omega
      have z1 : c.toNat = 240 → 144 ≤ d.toNat := fun q => by
        have := z.1; rw [if_neg (by omega), if_pos q] at this; omega
      have z2 : c.toNat = 244 → d.toNat ≤ 143 := fun q => by
        have := z.2; rw [if_neg (by omega), if_pos q] at this; omega
      cases r with
      | nil => rw [goOn_nil (by decide)]; rfl
      | cons e r =>
        have st2 := step42 hc z0 z1 z2 (byte_lt e)
        by_cases y2 : e.toNat / 64 = 2 ∧ mayBe 4 3 ((c.toNat % 8 * 64 + d.toNat % 64) * 64 + e.toNat % 64) = true
        · rw [goOn_yes (by decide) y2]
          have w := st2.mp y2
          show (if leastM [c, d] ≤ e.toNat ∧ (e.toNat : Int) ≤ mostM [c, d] then charLoop 1 [c, d, e] r else .error 2) = _
          rw [if_pos (show leastM [c, d] ≤ e.toNat ∧ (e.toNat : Int) ≤ mostM [c, d] from w)]
          have w2 : (e.toNat : Int) ≤ 191 := Int.le_trans w.2 (by split <;> omega)
          have w0 : 128 ≤ e.toNat ∧ e.toNat ≤ 191 := ⟨by have := w.1; omega, by omega⟩
          cases r with
          | nil => rw [goOn_nil (by decide)]; rfl
          | cons f r =>
            have st3 := step43 hc z0 z1 z2 w0 (byte_lt f)
            by_cases y3 : f.toNat / 64 = 2 ∧ mayBe 4 4 (((c.toNat % 8 * 64 + d.toNat % 64) * 64 + e.toNat % 64) * 64 + f.toNat % 64) = true
            · rw [goOn_yes (by decide) y3, goOn_done]
              have x := st3.mp y3
              show (if leastM [c, d, e] ≤ f.toNat ∧ (f.toNat : Int) ≤ mostM [c, d, e] then charLoop 0 [c, d, e, f] r else .error 3) = _
              rw [if_pos (show leastM [c, d, e] ≤ f.toNat ∧ (f.toNat : Int) ≤ mostM [c, d, e] from x)]
              show Except.ok (codeM [c, d, e, f]) = Except.ok (((((c.toNat % 8 * 64 + d.toNat % 64) * 64 + e.toNat % 64) * 64 + f.toNat % 64 : Nat)) : Int)
              congr 1
              show ((((c.toNat : Int) - 240) * 64 + d.toNat - 128) * 64 + e.toNat - 128) * 64 + f.toNat - 128 = _
              have x2 : (f.toNat : Int) ≤ 191 := Int.le_trans x.2 (by split <;> omega)
              have x1 := x.1
              omega
            · rw [goOn_no (by decide) y3]
              have x := fun q => y3 (st3.mpr q)
              show (if leastM [c, d, e] ≤ f.toNat ∧ (f.toNat : Int) ≤ mostM [c, d, e] then charLoop 0 [c, d, e, f] r else .error 3) = _
              exact if_neg x
        · rw [goOn_no (by decide) y2]
          have w := fun q => y2 (st2.mpr q)
          show (if leastM [c, d] ≤ e.toNat ∧ (e.toNat : Int) ≤ mostM [c, d] then charLoop 1 [c, d, e] r else .error 2) = _
          exact if_neg w
    · rw [goOn_no (by decide) y]
      have z := fun q => y (st.mpr q)
      show (if leastM [c] ≤ d.toNat ∧ (d.toNat : Int) ≤ mostM [c] then charLoop 2 [c, d] r else .error 1) = _
      exact if_neg z
def exC (x : Except Nat (Nat × Nat)) : Except Nat (Int × Nat) := match x with
  | .ok v => .ok (v.1, v.2)
  | .error k => .error k
/-- THE CHARACTER -/
theorem charM_eq (b : Bytes) : charM b = exC (charHere b) := by
  cases b with
  | nil => rfl
  | cons c r =>
    have hc := byte_lt c
    simp only [charM, charHere]
    by_cases h : furtherM c.toNat < 0
    · rw [if_pos h, if_pos ((step0 hc).mpr h)]; rfl
    · rw [if_neg h, if_neg (fun q => h ((step0 hc).mp q))]
      have hl := len_further hc h
      rcases further_cases h with ⟨e, a, b⟩ | ⟨e, a, b⟩ | ⟨e, a, b⟩ | ⟨e, a, b⟩
      · rw [e] at hl ⊢
        rw [← hl]
        show (match charLoop 0 [c] r with | .ok v => Except.ok (v, 0 + 1) | .error k => .error k) = exC (match goOn 4 1 1 c.toNat r with | .ok v => Except.ok (v, 1) | .error k => .error k)
        rw [goOn_done]; rfl
      · rw [e] at hl ⊢
        rw [← hl]
        show (match charLoop 1 [c] r with | .ok v => Except.ok (v, 1 + 1) | .error k => .error k) = exC (match goOn 4 2 1 (c.toNat % 32) r with | .ok v => Except.ok (v, 2) | .error k => .error k)
        rw [loop2 c r (by omega)]
        cases goOn 4 2 1 (c.toNat % 32) r <;> rfl
      · rw [e] at hl ⊢
        rw [← hl]
        show (match charLoop 2 [c] r with | .ok v => Except.ok (v, 2 + 1) | .error k => .error k) = exC (match goOn 4 3 1 (c.toNat % 16) r with | .ok v => Except.ok (v, 3) | .error k => .error k)
        rw [loop3 c r (by omega)]
        cases goOn 4 3 1 (c.toNat % 16) r <;> rfl
      · rw [e] at hl ⊢
        rw [← hl]
        show (match charLoop 3 [c] r with | .ok v => Except.ok (v, 3 + 1) | .error k => .error k) = exC (match goOn 4 4 1 (c.toNat % 8) r with | .ok v => Except.ok (v, 4) | .error k => .error k)
        rw [loop4 c r (by omega)]
        cases goOn 4 4 1 (c.toNat % 8) r <;> rfl
end Sm
/-! ## Numbers in rules' texts: the program's reading against the specification's -/
namespace Sm
open Fh
def headI : Bytes → Int
  | [] => -1
  | c :: _ => c.toNat
def cbL (lo hi : Nat) : Nat → Nat → Nat → Bool
  | 0, _, _ => false
  | f + 1, a, z => if a ≤ hi then (if lo ≤ z then true else cbL lo hi f (a * 10) (z * 10 + 9)) else false
def canBeginM (n lo hi : Nat) : Bool := if n = 0 then decide (lo = 0) else cbL lo hi 9 n n
def isBegunM (n : Nat) (sp : List (Nat × Nat)) : Bool := sp.any fun s => decide (s.1 ≤ s.2) && canBeginM n s.1 s.2
def inSp (sp : List (Nat × Nat)) (v : Nat) : Bool := sp.any fun s => decide (s.1 ≤ v) && decide (v ≤ s.2)
def numL (sp : List (Nat × Nat)) : Option Nat → Nat → Bytes → Except Nat (Option Nat × Nat)
  | f, k, [] => .ok (f, k)
  | f, k, c :: r => if 48 ≤ c.toNat ∧ c.toNat ≤ 57 ∧ f ≠ some 0 then
      (if isBegunM (f.getD 0 * 10 + (c.toNat - 48)) sp = true then numL sp (some (f.getD 0 * 10 + (c.toNat - 48))) (k + 1) r else .error k) else .ok (f, k)
def numEnd (sp : List (Nat × Nat)) : Except Nat (Option Nat × Nat) → Except Nat (Nat × Nat)
  | .error k => .error k
  | .ok (none, k) => .error k
  | .ok (some v, k) => if inSp sp v = true then .ok (v, k) else .error k
def numM (sp : List (Nat × Nat)) (r : Bytes) : Except Nat (Nat × Nat) := numEnd sp (numL sp none 0 r)
/-- the same, or the program goes on where the next byte, a digit, cannot stand -/
def Rel {α : Type} (r : Bytes) (x y : Except Nat (α × Nat)) : Prop := x = y ∨ ∃ v k c, x = .ok (v, k) ∧ y = .error k ∧ r[k]? = some c ∧ isDigit c = true
theorem digit_iff (c : UInt8) : isDigit c = true ↔ (48 ≤ c.toNat ∧ c.toNat ≤ 57) := by
  unfold isDigit
  rw [Bool.and_eq_true, decide_eq_true_eq, decide_eq_true_eq, UInt8.le_iff_toNat_le, UInt8.le_iff_toNat_le]
  exact Iff.rfl
theorem numL_spec (sp : List (Nat × Nat)) (can fin : Nat → Bool) (hc : ∀ v, isBegunM v sp = can v) (hf : ∀ v, inSp sp v = fin v) :
    ∀ (r : Bytes) (v k : Nat) (q : Bytes), q.drop k = r → Rel q (numEnd sp (numL sp (some v) k r)) (moreDigits can fin k v r)
  | [], v, k, q, hq => by
    refine Or.inl ?_
    show (if inSp sp v = true then Except.ok (v, k) else .error k) = if fin v = true then .ok (v, k) else .error k
    rw [hf]
  | c :: r, v, k, q, hq => by
    have hq2 : q.drop (k + 1) = r := by rw [← List.drop_drop, hq]; rfl
    have hqk : q[k]? = some c := by
      have : (q.drop k)[0]? = some c := by rw [hq]; rfl
      rwa [List.getElem?_drop, Nat.add_zero] at this
    rw [numL, moreDigits]
    by_cases h1 : isDigit c = true
    · have h2 := (digit_iff c).mp h1
      by_cases h3 : v = 0
      · subst h3
        rw [if_neg (by simp), if_neg (by simp), if_neg (by simp [h1])]
        show Rel q (if inSp sp 0 = true then Except.ok (0, k) else .error k) _
        by_cases h4 : inSp sp 0 = true
        · rw [if_pos h4]
          exact Or.inr ⟨0, k, c, rfl, rfl, hqk, h1⟩
        · rw [if_neg h4]
          exact Or.inl rfl
      · rw [if_pos ⟨h2.1, h2.2, by simpa using h3⟩]
        rw [Option.getD_some, hc, Nat.mul_comm v 10]
        by_cases h4 : can (10 * v + (c.toNat - 48)) = true
        · rw [if_pos h4, if_pos ⟨h1, h3, h4⟩]
          exact numL_spec sp can fin hc hf r _ _ q hq2
        · rw [if_neg h4, if_neg (fun z => h4 z.2.2), if_neg (by simp [h1])]
          exact Or.inl rfl
    · have h2 : ¬ (48 ≤ c.toNat ∧ c.toNat ≤ 57) := fun z => h1 ((digit_iff c).mpr z)
      rw [if_neg (fun z => h2 ⟨z.1, z.2.1⟩), if_neg (fun z => h1 z.1)]
      refine Or.inl ?_
      show (if inSp sp v = true then Except.ok (v, k) else .error k) = _
      rw [hf]
      by_cases h3 : fin v = true
      · rw [if_pos h3, if_pos ⟨h3, by simpa using h1⟩]
      · rw [if_neg h3, if_neg (fun z => h3 z.1)]
theorem numM_spec (sp : List (Nat × Nat)) (can fin : Nat → Bool) (hc : ∀ v, isBegunM v sp = can v) (hf : ∀ v, inSp sp v = fin v) (r : Bytes) : Rel r (numM sp r) (numberHere can fin r) := by
  cases r with
  | nil => exact Or.inl rfl
  | cons c r =>
    unfold numM
    rw [numL, numberHere]
    by_cases h1 : isDigit c = true
    · have h2 := (digit_iff c).mp h1
      rw [if_pos ⟨h2.1, h2.2, by simp⟩]
      show Rel _ (numEnd sp (if isBegunM (0 * 10 + (c.toNat - 48)) sp = true then numL sp (some (0 * 10 + (c.toNat - 48))) 1 r else _)) _
      rw [Nat.zero_mul, Nat.zero_add, hc]
      by_cases h4 : can (c.toNat - 48) = true
      · rw [if_pos h4, if_pos ⟨h1, h4⟩]
        exact numL_spec sp can fin hc hf r _ 1 (c :: r) rfl
      · rw [if_neg h4, if_neg (fun z => h4 z.2)]
        exact Or.inl rfl
    · have h2 : ¬ (48 ≤ c.toNat ∧ c.toNat ≤ 57) := fun z => h1 ((digit_iff c).mpr z)
      rw [if_neg (fun z => h2 ⟨z.1, z.2.1⟩), if_neg (fun z => h1 z.1)]
      exact Or.inl rfl
/-! bounds told by digits -/
theorem cbL_iff (lo hi : Nat) : ∀ (f a p : Nat), 1 ≤ a → 1 ≤ p → (cbL lo hi f (a * p) (a * p + (p - 1)) = true ↔ ∃ j, j < f ∧ a * (p * 10 ^ j) ≤ hi ∧ lo ≤ a * (p * 10 ^ j) + (p * 10 ^ j - 1))
  | 0, a, p, _, _ => by simp [cbL]
  | f + 1, a, p, ha, hp => by
    have e1 : a * p * 10 = a * (p * 10) := Nat.mul_assoc a p 10
    have e2 : (a * p + (p - 1)) * 10 + 9 = a * (p * 10) + (p * 10 - 1) := by rw [← e1]; omega
    have ih := cbL_iff lo hi f a (p * 10) ha (by omega)
    have mono : ∀ j, a * p ≤ a * (p * 10 ^ j) := fun j => Nat.mul_le_mul_left a (Nat.le_mul_of_pos_right p (Nat.pow_pos (by decide)))
    rw [cbL, e1, e2]
    by_cases h1 : a * p ≤ hi
    · rw [if_pos h1]
      by_cases h2 : lo ≤ a * p + (p - 1)
      · rw [if_pos h2]
        refine ⟨fun _ => ⟨0, by omega, ?_, ?_⟩, fun _ => rfl⟩
        · simpa using h1
        · simpa using h2
      · rw [if_neg h2, ih]
        constructor
        · rintro ⟨j, hj, x, y⟩
          refine ⟨j + 1, by omega, ?_, ?_⟩
          · rw [Nat.pow_succ', ← Nat.mul_assoc p 10]; exact x
          · rw [Nat.pow_succ', ← Nat.mul_assoc p 10]; exact y
        · rintro ⟨j, hj, x, y⟩
          cases j with
          | zero => exact absurd (by simpa using y) h2
          | succ j =>
            rw [Nat.pow_succ', ← Nat.mul_assoc p 10] at x y
            exact ⟨j, by omega, x, y⟩
    · rw [if_neg h1]
      refine ⟨fun z => (Bool.false_ne_true z).elim, fun ⟨j, _, x, _⟩ => absurd (Nat.le_trans (mono j) x) h1⟩
theorem canBegin_begins {v lo hi : Nat} (hh : hi < 100000000) : canBeginM v lo hi = begins lo hi v := by
  unfold canBeginM begins
  by_cases h0 : v = 0
  · rw [if_pos h0, if_pos h0]
  · rw [if_neg h0, if_neg h0]
    have h := cbL_iff lo hi 9 v 1 (by omega) (Nat.le_refl 1)
    rw [Nat.mul_one, Nat.sub_self, Nat.add_zero] at h
    rw [Bool.eq_iff_iff, h, List.any_eq_true]
    constructor
    · rintro ⟨j, hj, x, y⟩
      rw [Nat.one_mul] at x y
      refine ⟨j, ?_, ?_⟩
      · rw [List.mem_range]
        rcases Nat.lt_or_ge j 8 with h8 | h8
        · exact h8
        · exfalso
          have e : j = 8 := by omega
          subst e
          have : 1 * 10 ^ 8 ≤ v * 10 ^ 8 := Nat.mul_le_mul_right _ (by omega)
          omega
      · rw [Bool.and_eq_true, decide_eq_true_eq, decide_eq_true_eq]
        exact ⟨x, y⟩
    · rintro ⟨j, hj, x⟩
      rw [List.mem_range] at hj
      rw [Bool.and_eq_true, decide_eq_true_eq, decide_eq_true_eq] at x
      exact ⟨j, by omega, by rw [Nat.one_mul]; exact x.1, by rw [Nat.one_mul]; exact x.2⟩
theorem isBegun_one {v lo hi : Nat} (hl : lo ≤ hi) (hh : hi < 100000000) : isBegunM v [(lo, hi)] = begins lo hi v := by
  simp only [isBegunM, List.any_cons, List.any_nil, Bool.or_false]
  rw [decide_eq_true hl, Bool.true_and, canBegin_begins hh]
theorem inSp_one {v lo hi : Nat} : inSp [(lo, hi)] v = within lo hi v := by
  simp only [inSp, List.any_cons, List.any_nil, Bool.or_false, within]
theorem num_one {lo hi : Nat} (hl : lo ≤ hi) (hh : hi < 100000000) (r : Bytes) : Rel r (numM [(lo, hi)] r) (numberHere (begins lo hi) (within lo hi) r) :=
  numM_spec _ _ _ (fun _ => isBegun_one hl hh) (fun _ => inSp_one) r
def own (cls : List Nat) : List (Nat × Nat) := cls.map fun s => (s, s)
theorem inSp_own (cls : List Nat) (v : Nat) : inSp (own cls) v = cls.contains v := by
  unfold inSp own
  rw [List.any_map, List.contains_eq_any_beq]
  congr 1
  funext s
  show (decide (s ≤ v) && decide (v ≤ s)) = (v == s)
  rw [Bool.eq_iff_iff, Bool.and_eq_true, decide_eq_true_eq, decide_eq_true_eq, beq_iff_eq]
  omega
theorem begin_own : ∀ s v : Nat, s ≤ 15 → (decide (s ≤ s) && canBeginM v s s) = (s == v || (v != 0 && s / 10 == v)) := by
  intro s v hs
  rw [decide_eq_true (Nat.le_refl s), Bool.true_and, canBegin_begins (by omega)]
  unfold begins
  by_cases h0 : v = 0
  · subst h0
    rw [if_pos rfl]
    by_cases e : s = 0 <;> simp [e]
  · rw [if_neg h0, Bool.eq_iff_iff, List.any_eq_true, Bool.or_eq_true, Bool.and_eq_true, beq_iff_eq, beq_iff_eq, bne_iff_ne]
    constructor
    · rintro ⟨j, hj, x⟩
      rw [Bool.and_eq_true, decide_eq_true_eq, decide_eq_true_eq] at x
      match j with
      | 0 => left; simp at x; omega
      | 1 => right; simp at x; omega
      | j + 2 =>
        exfalso
        have p : 100 ≤ 10 ^ (j + 2) := by
          have : 0 < 10 ^ j := Nat.pow_pos (by decide)
          rw [Nat.pow_add]; omega
        have : 1 * 10 ^ (j + 2) ≤ v * 10 ^ (j + 2) := Nat.mul_le_mul_right _ (by omega)
        omega
    · rintro (e | ⟨_, e⟩)
      · exact ⟨0, by simp, by simp; omega⟩
      · exact ⟨1, by simp, by simp; omega⟩
theorem isBegun_own (cls : List Nat) (v : Nat) (h : ∀ s ∈ cls, s ≤ 15) : isBegunM v (own cls) = cls.any fun (s : Nat) => s == v || (v != 0 && s / 10 == v) := by
  unfold isBegunM own
  rw [List.any_map, Bool.eq_iff_iff, List.any_eq_true, List.any_eq_true]
  constructor
  · rintro ⟨s, hs, e⟩
    exact ⟨s, hs, by rw [← begin_own s v (h s hs)]; exact e⟩
  · rintro ⟨s, hs, e⟩
    exact ⟨s, hs, by rw [← begin_own s v (h s hs)] at e; exact e⟩
theorem num_own {cls : List Nat} (h : ∀ s ∈ cls, s ≤ 15) (r : Bytes) : Rel r (numM (own cls) r) (numberHere (fun (v : Nat) => cls.any fun (s : Nat) => s == v || (v != 0 && s / 10 == v)) (fun (v : Nat) => cls.contains v) r) :=
  numM_spec _ _ _ (fun v => isBegun_own cls v h) (fun v => inSp_own cls v) r
end Sm
/-! ## Rules' texts: the program's reading against the specification's -/
namespace Sm
open Fh
theorem u8 {c : UInt8} (l : UInt8) : c = l ↔ c.toNat = l.toNat := UInt8.toNat_inj.symm
theorem headI_cons (c : UInt8) (r : Bytes) : headI (c :: r) = c.toNat := rfl
theorem headI_eq {r : Bytes} {n : Nat} (h : headI r = (n : Int)) : ∃ c t, r = c :: t ∧ c.toNat = n := by
  cases r with
  | nil => simp [headI] at h
  | cons c t => exact ⟨c, t, rfl, by rw [headI_cons] at h; omega⟩
theorem drop_next {b : Bytes} {n : Nat} {c : UInt8} {t : Bytes} (h : b.drop n = c :: t) : t = b.drop (n + 1) := by
  rw [← List.drop_drop, h]; rfl
theorem drop_lt {b : Bytes} {n : Nat} {c : UInt8} {t : Bytes} (h : b.drop n = c :: t) : n < b.length := by
  rcases Nat.lt_or_ge n b.length with q | q
  · exact q
  · rw [List.drop_eq_nil_of_le q] at h; cases h
/-! ### certain characters -/
def certL : Nat → Nat → List Nat → Bytes → Except Nat (List Nat × Nat)
  | 0, n, _, _ => .error n
  | f + 1, n, l, r => if l = [] ∨ headI r ≠ 34 then (match charHere r with
      | .error k => .error (n + k)
      | .ok x => if x.1 = 34 then .error n else certL f (n + x.2) (x.1 :: l) (r.drop x.2)) else .ok (l.reverse, n + 1)
theorem loop_ok {m : Nat} {g : Bytes} {c : UInt8} {r : Bytes} {x : Int} (h : charLoop (m + 1) g (c :: r) = .ok x) : leastM g ≤ c.toNat ∧ (c.toNat : Int) ≤ mostM g ∧ charLoop m (g ++ [c]) r = .ok x := by
  rw [charLoop] at h
  by_cases y : leastM g ≤ c.toNat ∧ (c.toNat : Int) ≤ mostM g
  · rw [if_pos y] at h; exact ⟨y.1, y.2, h⟩
  · rw [if_neg y] at h; cases h
theorem char_big {c : UInt8} {r : Bytes} {x : Int} {m : Nat} (h : charM (c :: r) = .ok (x, m)) : (m = 1 ∧ x = c.toNat ∧ 32 ≤ c.toNat ∧ c.toNat ≤ 126) ∨ (128 ≤ x ∧ 2 ≤ m ∧ m ≤ r.length + 1 ∧ 194 ≤ c.toNat) := by
  simp only [charM] at h
  by_cases h0 : furtherM c.toNat < 0
  · rw [if_pos h0] at h; cases h
  · rw [if_neg h0] at h
    rcases further_cases h0 with ⟨e, a, b⟩ | ⟨e, a, b⟩ | ⟨e, a, b⟩ | ⟨e, a, b⟩
    · rw [e] at h
      left
      have h1 : Except.ok (ε := Nat) ((c.toNat : Int), 0 + 1) = .ok (x, m) := h
      cases h1
      exact ⟨rfl, rfl, by omega, by omega⟩
    · rw [e] at h
      right
      cases hL : charLoop 1 [c] r with
      | error k => rw [show (1 : Int).toNat = 1 from rfl, hL] at h; cases h
      | ok v =>
        rw [show (1 : Int).toNat = 1 from rfl, hL] at h
        cases h
        cases r with
        | nil => cases hL
        | cons d r =>
          obtain ⟨y1, y2, y3⟩ := loop_ok hL
          have y4 : Except.ok (ε := Nat) (codeM [c, d]) = .ok x := y3
          cases y4
          have : (128 : Int) ≤ leastM [c] := by simp only [leastM]; split <;> (try split) <;> omega
          simp only [codeM, List.length_cons]
          omega
    · rw [e] at h
      right
      cases hL : charLoop 2 [c] r with
      | error k => rw [show (2 : Int).toNat = 2 from rfl, hL] at h; cases h
      | ok v =>
        rw [show (2 : Int).toNat = 2 from rfl, hL] at h
        cases h
        cases r with
        | nil => cases hL
        | cons d r =>
          obtain ⟨y1, y2, y3⟩ := loop_ok hL
          cases r with
          | nil => cases y3
          | cons f r =>
            obtain ⟨z1, z2, z3⟩ := loop_ok y3
            have y4 : Except.ok (ε := Nat) (codeM [c, d, f]) = .ok x := z3
            cases y4
            have q1 : (if c.toNat = 224 then (160 : Int) else 128) ≤ leastM [c] := by simp only [leastM]; repeat' split <;> omega
            have q2 : (128 : Int) ≤ leastM ([c] ++ [d]) := Int.le_refl _
            simp only [codeM, List.length_cons]
            split at q1 <;> omega
    · rw [e] at h
      right
      cases hL : charLoop 3 [c] r with
      | error k => rw [show (3 : Int).toNat = 3 from rfl, hL] at h; cases h
      | ok v =>
        rw [show (3 : Int).toNat = 3 from rfl, hL] at h
        cases h
        cases r with
        | nil => cases hL
        | cons d r =>
          obtain ⟨y1, y2, y3⟩ := loop_ok hL
          cases r with
          | nil => cases y3
          | cons f r =>
            obtain ⟨z1, z2, z3⟩ := loop_ok y3
            cases r with
            | nil => cases z3
            | cons g r =>
              obtain ⟨w1, w2, w3⟩ := loop_ok z3
              have y4 : Except.ok (ε := Nat) (codeM [c, d, f, g]) = .ok x := w3
              cases y4
              have q1 : (if c.toNat = 240 then (144 : Int) else 128) ≤ leastM [c] := by simp only [leastM]; repeat' split <;> omega
              have q2 : (128 : Int) ≤ leastM ([c] ++ [d]) := Int.le_refl _
              have q3 : (128 : Int) ≤ leastM ([c] ++ [d] ++ [f]) := Int.le_refl _
              simp only [codeM, List.length_cons]
              split at q1 <;> omega
theorem charHere_ok {r : Bytes} {x m : Nat} (h : charHere r = .ok (x, m)) : ∃ c t, r = c :: t ∧ ((m = 1 ∧ x = c.toNat ∧ 32 ≤ c.toNat ∧ c.toNat ≤ 126) ∨ (128 ≤ x ∧ 2 ≤ m ∧ m ≤ t.length + 1 ∧ 194 ≤ c.toNat)) := by
  cases r with
  | nil => cases h
  | cons c t =>
    have e := charM_eq (c :: t)
    rw [h] at e
    refine ⟨c, t, rfl, ?_⟩
    rcases char_big (x := x) (m := m) e with ⟨a, b, q⟩ | ⟨a, b⟩
    · exact Or.inl ⟨a, by omega, q⟩
    · exact Or.inr ⟨by omega, b⟩
theorem charHere_pos {r : Bytes} {x : Nat × Nat} (h : charHere r = .ok x) : 1 ≤ x.2 ∧ x.2 ≤ r.length := by
  obtain ⟨c, t, rfl, q⟩ := charHere_ok (x := x.1) (m := x.2) h
  rw [List.length_cons]
  omega
theorem cert_eq : ∀ (f n : Nat) (l : List Nat) (r : Bytes), certL f n l r = litFrom f n l r
  | 0, _, _, _ => rfl
  | f + 1, n, l, [] => by
    rw [certL, litFrom, if_pos (Or.inr (by decide))]
    rfl
  | f + 1, n, l, c :: b => by
    rw [certL, litFrom]
    by_cases h : c = 34
    · have h2 : c.toNat = 34 := (u8 34).mp h
      rw [if_pos h]
      by_cases hl : l = []
      · rw [if_pos (Or.inl hl), if_pos hl]
        have e : charM (c :: b) = .ok (34, 1) := by
          simp only [charM]
          rw [show furtherM (c.toNat : Int) = 0 by rw [h2]; decide]
          show Except.ok ((c.toNat : Int), 1) = _
          rw [h2]
          rfl
        rw [charM_eq] at e
        cases q : charHere (c :: b) with
        | error k => rw [q] at e; cases e
        | ok x =>
          rw [q] at e
          have e2 : (x.1 : Int) = 34 ∧ x.2 = 1 := by
            have : Except.ok (ε := Nat) ((x.1 : Int), x.2) = .ok (34, 1) := e
            injection this with z
            exact ⟨congrArg Prod.fst z, congrArg Prod.snd z⟩
          show (if x.1 = 34 then _ else _) = _
          rw [if_pos (by omega)]
      · rw [if_neg (by rw [headI_cons, h2]; simp [hl]), if_neg hl]
    · have h2 : ¬ c.toNat = 34 := fun z => h ((u8 34).mpr z)
      rw [if_neg h, if_pos (Or.inr (by rw [headI_cons]; omega))]
      cases q : charHere (c :: b) with
      | error k => rfl
      | ok x =>
        show (if x.1 = 34 then _ else _) = litFrom f (n + x.2) (x.1 :: l) ((c :: b).drop x.2)
        obtain ⟨c', t, e, w⟩ := charHere_ok (x := x.1) (m := x.2) q
        injection e with e1 e2
        subst e1
        rw [if_neg (by omega)]
        exact cert_eq f _ _ _
def atomM (cls : List Nat) : Bytes → Except Nat (Atom × Nat)
  | [] => .error 0
  | c :: r => if c.toNat = 46 then .ok (.any, 1)
    else if c.toNat = 37 ∧ cls ≠ [] then (match numM (own cls) r with
      | .ok x => .ok (.cls x.1, x.2 + 1)
      | .error k => .error (k + 1))
    else if c.toNat = 34 then (match certL (r.length + 1) 0 [] r with
      | .ok x => .ok (.lit x.1, x.2 + 1)
      | .error k => .error (k + 1))
    else .error 0
theorem Rel.of_eq {α : Type} {r : Bytes} {x y : Except Nat (α × Nat)} (h : x = y) : Rel r x y := Or.inl h
theorem atom_rel {cls : List Nat} (h : ∀ s ∈ cls, s ≤ 15) (r : Bytes) : Rel r (atomM cls r) (atomHere cls r) := by
  cases r with
  | nil => exact Or.inl rfl
  | cons c r =>
    rw [atomM, atomHere]
    by_cases h1 : c.toNat = 46
    · rw [if_pos h1, if_pos (show c = 46 from (u8 46).mpr h1)]; exact Or.inl rfl
    · rw [if_neg h1, if_neg (show ¬ c = 46 from fun z => h1 ((u8 46).mp z))]
      by_cases h2 : c.toNat = 37 ∧ cls ≠ []
      · rw [if_pos h2, if_neg (show ¬ c = 34 from fun z => by have : c.toNat = 34 := (u8 34).mp z; omega), if_pos (show c = 37 ∧ cls ≠ [] from ⟨(u8 37).mpr h2.1, h2.2⟩)]
        rcases num_own h r with e | ⟨v, k, d, e1, e2, e3, e4⟩
        · rw [e]; exact Or.inl rfl
        · rw [e1, e2]
          exact Or.inr ⟨.cls v, k + 1, d, rfl, rfl, by simpa using e3, e4⟩
      · rw [if_neg h2]
        by_cases h3 : c.toNat = 34
        · rw [if_pos h3, if_pos (show c = 34 from (u8 34).mpr h3), cert_eq]; exact Or.inl rfl
        · rw [if_neg h3, if_neg (show ¬ c = 34 from fun z => h3 ((u8 34).mp z)), if_neg (show ¬ (c = 37 ∧ cls ≠ []) from fun z => h2 ⟨(u8 37).mp z.1, z.2⟩)]; exact Or.inl rfl
def timesM (r : Bytes) : Except Nat (Nat × Nat × Nat) := if headI r ≠ 42 then .ok (1, 1, 0) else match numM [(0, 32)] (r.drop 1) with
  | .error k => .error (k + 1)
  | .ok x => if headI (r.drop (1 + x.2)) ≠ 45 then .error (x.2 + 1) else match numM [(if x.1 = 1 then 2 else x.1, 32)] (r.drop (x.2 + 2)) with
    | .error k => .error (x.2 + 2 + k)
    | .ok y => .ok (x.1, y.1, x.2 + 2 + y.2)
def RelT (r : Bytes) (x y : Except Nat (Nat × Nat × Nat)) : Prop := x = y ∨ ∃ lo hi k c, x = .ok (lo, hi, k) ∧ y = .error k ∧ r[k]? = some c ∧ isDigit c = true
theorem num_in {sp : List (Nat × Nat)} {r : Bytes} {v k : Nat} (h : numM sp r = .ok (v, k)) : inSp sp v = true := by
  unfold numM at h
  cases e : numL sp none 0 r with
  | error j => rw [e] at h; cases h
  | ok z =>
    rw [e] at h
    obtain ⟨o, j⟩ := z
    cases o with
    | none => cases h
    | some u =>
      have h2 : (if inSp sp u = true then Except.ok (u, j) else .error j) = .ok (v, k) := h
      by_cases q : inSp sp u = true
      · rw [if_pos q] at h2; cases h2; exact q
      · rw [if_neg q] at h2; cases h2
theorem times_rel (r : Bytes) : RelT r (timesM r) (timesHere r) := by
  unfold timesM
  cases r with
  | nil => exact Or.inl rfl
  | cons c b =>
    rw [timesHere, headI_cons]
    by_cases h1 : c.toNat = 42
    · rw [if_neg (by omega), if_neg (show ¬ c ≠ 42 from fun z => z ((u8 42).mpr h1))]
      have hr := num_one (lo := 0) (hi := 32) (by decide) (by decide) b
      show RelT _ (match numM [(0, 32)] b with | .error k => _ | .ok x => _) _
      rcases hr with e | ⟨v, k, d, e1, e2, e3, e4⟩
      · rw [← e]
        cases q : numM [(0, 32)] b with
        | error k => exact Or.inl rfl
        | ok x =>
          obtain ⟨lo, n⟩ := x
          have hin := num_in q
          rw [inSp_one] at hin
          unfold within at hin
          rw [Bool.and_eq_true, decide_eq_true_eq, decide_eq_true_eq] at hin
          have e5 : (c :: b).drop (1 + n) = b.drop n := by rw [Nat.add_comm]; rfl
          have e6 : (c :: b).drop (n + 2) = b.drop (n + 1) := rfl
          dsimp only
          rw [e5, e6]
          cases hb : b.drop n with
          | nil =>
            rw [if_pos (by decide)]
            exact Or.inl rfl
          | cons d t =>
            have ht := drop_next hb
            rw [headI_cons]
            dsimp only
            by_cases h2 : d.toNat = 45
            · rw [if_neg (by omega), if_neg (show ¬ d ≠ 45 from fun z => z ((u8 45).mpr h2)), ht]
              have hr2 := num_one (lo := if lo = 1 then 2 else lo) (hi := 32) (by split <;> omega) (by decide) (b.drop (n + 1))
              rcases hr2 with f | ⟨v, k, d2, f1, f2, f3, f4⟩
              · rw [f]
                cases numberHere (begins (if lo = 1 then 2 else lo) 32) (within (if lo = 1 then 2 else lo) 32) (b.drop (n + 1)) <;> exact Or.inl rfl
              · rw [f1, f2]
                refine Or.inr ⟨lo, v, n + 2 + k, d2, rfl, rfl, ?_, f4⟩
                rw [List.getElem?_drop] at f3
                rw [show n + 2 + k = (n + 1 + k) + 1 by omega, List.getElem?_cons_succ]
                exact f3
            · rw [if_pos (by omega), if_pos (show d ≠ 45 from fun z => h2 ((u8 45).mp z))]
              exact Or.inl rfl
      · rw [e1, e2]
        have e5 : (c :: b).drop (1 + k) = b.drop k := by rw [Nat.add_comm]; rfl
        show RelT _ (if headI ((c :: b).drop (1 + k)) ≠ 45 then _ else _) _
        rw [e5]
        have hd : headI (b.drop k) = d.toNat := by
          cases hb : b.drop k with
          | nil =>
            have : (b.drop k)[0]? = some d := by rw [List.getElem?_drop]; exact e3
            rw [hb] at this; cases this
          | cons d2 t =>
            have : (b.drop k)[0]? = some d := by rw [List.getElem?_drop]; exact e3
            rw [hb] at this; cases this; rfl
        have := (digit_iff d).mp e4
        rw [hd, if_pos (by omega)]
        exact Or.inl rfl
    · rw [if_pos (by omega), if_pos (show c ≠ 42 from fun z => h1 ((u8 42).mp z))]
      exact Or.inl rfl
def itemM (cls : List Nat) (r : Bytes) : Except Nat (Item × Nat) := match atomM cls r with
  | .error k => .error k
  | .ok x => match timesM (r.drop x.2) with
    | .error k => .error (x.2 + k)
    | .ok y => .ok (⟨x.1, y.1, y.2.1⟩, x.2 + y.2.2)
theorem item_rel {cls : List Nat} (h : ∀ s ∈ cls, s ≤ 15) (r : Bytes) : Rel r (itemM cls r) (itemHere cls r) := by
  unfold itemM itemHere
  rcases atom_rel h r with e | ⟨v, k, d, e1, e2, e3, e4⟩
  · rw [e]
    cases atomHere cls r with
    | error k => exact Or.inl rfl
    | ok x =>
      obtain ⟨a, n⟩ := x
      show Rel r (match timesM (r.drop n) with | .error k => _ | .ok y => _) (match timesHere (r.drop n) with | .error k => _ | .ok (lo, hi, m) => _)
      rcases times_rel (r.drop n) with f | ⟨lo, hi, k, d, f1, f2, f3, f4⟩
      · rw [f]
        cases timesHere (r.drop n) with
        | error k => exact Or.inl rfl
        | ok y => exact Or.inl rfl
      · rw [f1, f2]
        refine Or.inr ⟨_, n + k, d, rfl, rfl, ?_, f4⟩
        rw [List.getElem?_drop] at f3
        exact f3
  · rw [e1, e2]
    have hd : headI (r.drop k) = d.toNat := by
      have : (r.drop k)[0]? = some d := by rw [List.getElem?_drop]; exact e3
      cases hb : r.drop k with
      | nil => rw [hb] at this; cases this
      | cons d2 t => rw [hb] at this; cases this; rfl
    have h9 := (digit_iff d).mp e4
    have ht : timesM (r.drop k) = .ok (1, 1, 0) := by
      unfold timesM
      rw [hd, if_pos (by omega)]
    show Rel r (match timesM (r.drop k) with | .error k => _ | .ok y => _) (.error k)
    rw [ht]
    exact Or.inr ⟨_, k, d, rfl, rfl, e3, e4⟩
end Sm
/-! ## Lines of rules, rules: the program's reading against the specification's -/
namespace Sm
open Fh
def hd (b : Bytes) (n : Nat) : Int := headI (b.drop n)
theorem hd_cons {b : Bytes} {n : Nat} {c : UInt8} {t : Bytes} (h : b.drop n = c :: t) : hd b n = c.toNat := by unfold hd; rw [h]; rfl
theorem hd_nil {b : Bytes} {n : Nat} (h : b.drop n = []) : hd b n = -1 := by unfold hd; rw [h]; rfl
theorem hd_lt {b : Bytes} {n : Nat} (h : 0 ≤ hd b n) : n < b.length := by
  cases e : b.drop n with
  | nil => rw [hd_nil e] at h; omega
  | cons c t => exact drop_lt e
theorem hd_at {b : Bytes} {n k : Nat} {c : UInt8} (h : (b.drop n)[k]? = some c) : hd b (n + k) = c.toNat := by
  rw [List.getElem?_drop] at h
  cases e : b.drop (n + k) with
  | nil =>
    have : (b.drop (n + k))[0]? = some c := by rw [List.getElem?_drop]; exact h
    rw [e] at this; cases this
  | cons d t =>
    have : (b.drop (n + k))[0]? = some c := by rw [List.getElem?_drop]; exact h
    rw [e] at this; cases this
    exact hd_cons e
def beforeL (cls : List Nat) (b : Bytes) : Nat → Nat → List Item → Except Nat (List Item × Nat)
  | 0, n, _ => .error n
  | f + 1, n, l => if hd b n = 124 then .ok (l.reverse, n + 1) else match itemM cls (b.drop n) with
    | .error k => .error (n + k)
    | .ok x => if hd b (n + x.2) = 32 then beforeL cls b f (n + x.2 + 1) (x.1 :: l) else .error (n + x.2)
def behindL (cls : List Nat) (b : Bytes) : Nat → Nat → List Item → Except Nat ((List Item × Bool) × Nat)
  | 0, n, _ => .error n
  | f + 1, n, l => if hd b n = 32 then (if hd b (n + 1) = 36 then .ok ((l.reverse, true), n + 2) else match itemM cls (b.drop (n + 1)) with
      | .error k => .error (n + 1 + k)
      | .ok x => behindL cls b f (n + 1 + x.2) (x.1 :: l)) else .ok ((l.reverse, false), n)
theorem rf_nil {cls : List Nat} {cut : Bool} {f n : Nat} {h : Half} : ruleFrom cls cut (f + 1) n h [] = .error n := rfl
theorem rf_cons {classes : List Nat} {cut : Bool} {f n : Nat} {h : Half} {c : UInt8} {b : Bytes} : ruleFrom classes cut (f + 1) n h (c :: b) =
    (if c = 10 ∧ h.bar = true then .ok (h.rule cut, n + 1)
    else if c ≠ 32 ∨ h.halt_ = true then .error n
    else match b with
      | [] => .error (n + 1)
      | d :: r => if d = 94 ∧ h.start = false ∧ h.before = [] ∧ h.bar = false then ruleFrom classes cut f (n + 2) { h with start := true } r
        else if d = 124 ∧ h.bar = false then ruleFrom classes cut f (n + 2) { h with bar := true } r
        else if d = 36 ∧ h.bar = true then ruleFrom classes cut f (n + 2) { h with halt_ := true } r
        else match itemHere classes (d :: r) with
          | .ok (i, m) => ruleFrom classes cut f (n + 1 + m) (h.with_ i) ((d :: r).drop m)
          | .error k => .error (n + 1 + k)) := rfl
def ruleEnd (b : Bytes) (cut st : Bool) (bf : List Item) : Except Nat ((List Item × Bool) × Nat) → Except Nat (Rule × Nat)
  | .error k => .error k
  | .ok x => if hd b x.2 = 10 then .ok (⟨cut, st, bf, x.1.1, x.1.2⟩, x.2 + 1) else .error x.2
theorem behind_eq {cls : List Nat} (hc : ∀ s ∈ cls, s ≤ 15) (b : Bytes) (cut st : Bool) (bf : List Item) : ∀ (F f n : Nat) (l : List Item), b.length - n < F → b.length - n < f →
    ruleFrom cls cut f n ⟨st, bf, true, l, false⟩ (b.drop n) = ruleEnd b cut st bf.reverse (behindL cls b F n l)
  | 0, _, _, _, h, _ => by omega
  | _, 0, _, _, _, h => by omega
  | F + 1, f + 1, n, l, h1, h2 => by
    rw [behindL]
    cases e : b.drop n with
    | nil =>
      rw [rf_nil, hd_nil e, if_neg (by decide)]
      show _ = if hd b n = 10 then _ else _
      rw [hd_nil e, if_neg (by decide)]
    | cons c t =>
      have ht := drop_next e
      have hl := drop_lt e
      rw [rf_cons, hd_cons e]
      by_cases h10 : c.toNat = 10
      · rw [if_pos (show c = 10 ∧ _ from ⟨(u8 10).mpr h10, rfl⟩), if_neg (by omega)]
        show _ = if hd b n = 10 then _ else _
        rw [hd_cons e, if_pos (by omega)]
        rfl
      · rw [if_neg (show ¬ (c = 10 ∧ _) from fun z => h10 ((u8 10).mp z.1))]
        by_cases h32 : c.toNat = 32
        · rw [if_neg (show ¬ (c ≠ 32 ∨ _) from fun z => z.elim (fun z => z ((u8 32).mpr h32)) (fun z => Bool.false_ne_true z)), if_pos (by omega)]
          rw [ht]
          cases e2 : b.drop (n + 1) with
          | nil =>
            have e3 : hd b (n + 1) = -1 := hd_nil e2
            rw [e3, if_neg (by decide)]
            rfl
          | cons d r =>
            have hr := drop_next e2
            have hl2 := drop_lt e2
            rw [hd_cons e2]
            dsimp only
            rw [if_neg (show ¬ (d = 94 ∧ _) from fun z => by simp at z), if_neg (show ¬ (d = 124 ∧ _) from fun z => by simp at z)]
            by_cases h36 : d.toNat = 36
            · rw [if_pos (show d = 36 ∧ _ from ⟨(u8 36).mpr h36, rfl⟩), if_pos (by omega)]
              show _ = if hd b (n + 2) = 10 then _ else _
              rw [hr]
              show ruleFrom cls cut f (n + 2) _ (b.drop (n + 2)) = _
              cases f with
              | zero => omega
              | succ f =>
                cases e3 : b.drop (n + 2) with
                | nil =>
                  rw [rf_nil, hd_nil e3, if_neg (by decide)]
                | cons g q =>
                  rw [rf_cons, hd_cons e3]
                  by_cases g10 : g.toNat = 10
                  · rw [if_pos (show g = 10 ∧ _ from ⟨(u8 10).mpr g10, rfl⟩), if_pos (by omega)]
                    rfl
                  · rw [if_neg (show ¬ (g = 10 ∧ _) from fun z => g10 ((u8 10).mp z.1)), if_pos (Or.inr rfl), if_neg (by omega)]
            · rw [if_neg (show ¬ (d = 36 ∧ _) from fun z => h36 ((u8 36).mp z.1)), if_neg (by omega)]
              rcases item_rel hc (d :: r) with q | ⟨v, k, g, q1, q2, q3, q4⟩
              · rw [q]
                cases itemHere cls (d :: r) with
                | error k => rfl
                | ok x =>
                  dsimp only
                  have ih := behind_eq hc b cut st bf F f (n + 1 + x.2) (x.1 :: l) (by omega) (by omega)
                  rw [← ih, ← e2, List.drop_drop]
                  rfl
              · rw [q1, q2]
                dsimp only
                have e4 : hd b (n + 1 + k) = g.toNat := hd_at (by rw [e2]; exact q3)
                have := (digit_iff g).mp q4
                cases F with
                | zero => omega
                | succ F =>
                  rw [behindL, e4, if_neg (by omega)]
                  show _ = if hd b (n + 1 + k) = 10 then _ else _
                  rw [e4, if_neg (by omega)]
        · rw [if_pos (show c ≠ 32 ∨ _ from Or.inl fun z => h32 ((u8 32).mp z)), if_neg (by omega)]
          show _ = if hd b n = 10 then _ else _
          rw [hd_cons e, if_neg (by omega)]
def ruleGo (cls : List Nat) (b : Bytes) (cut st : Bool) : Except Nat (List Item × Nat) → Except Nat (Rule × Nat)
  | .error k => .error k
  | .ok x => ruleEnd b cut st x.1 (behindL cls b (b.length + 1) x.2 [])
theorem before_eq {cls : List Nat} (hc : ∀ s ∈ cls, s ≤ 15) (b : Bytes) (cut st : Bool) : ∀ (F f n : Nat) (l : List Item), b.length - n < F → b.length - n < f → hd b n = 32 → ¬ (hd b (n + 1) = 94 ∧ st = false ∧ l = []) →
    ruleFrom cls cut f n ⟨st, l, false, [], false⟩ (b.drop n) = ruleGo cls b cut st (beforeL cls b F (n + 1) l)
  | 0, _, _, _, h, _, _, _ => by omega
  | _, 0, _, _, _, h, _, _ => by omega
  | F + 1, f + 1, n, l, h1, h2, h3, h4 => by
    rw [beforeL]
    cases e : b.drop n with
    | nil => rw [hd_nil e] at h3; exact absurd h3 (by decide)
    | cons c t =>
      have ht := drop_next e
      have hl := drop_lt e
      have h32 : c.toNat = 32 := by rw [hd_cons e] at h3; omega
      rw [rf_cons, if_neg (show ¬ (c = 10 ∧ _) from fun z => by simp at z), if_neg (show ¬ (c ≠ 32 ∨ _) from fun z => z.elim (fun z => z ((u8 32).mpr h32)) (fun z => Bool.false_ne_true z)), ht]
      cases e2 : b.drop (n + 1) with
      | nil =>
        rw [hd_nil e2, if_neg (by decide)]
        rfl
      | cons d r =>
        have hr := drop_next e2
        have hl2 := drop_lt e2
        rw [hd_cons e2] at h4 ⊢
        dsimp only
        rw [if_neg (show ¬ (d = 94 ∧ st = false ∧ l = [] ∧ false = false) from fun z => h4 ⟨by have := (u8 94).mp z.1; rw [this]; rfl, z.2.1, z.2.2.1⟩)]
        by_cases h124 : d.toNat = 124
        · rw [if_pos (show d = 124 ∧ _ from ⟨(u8 124).mpr h124, rfl⟩), if_pos (by omega), hr]
          have := behind_eq hc b cut st l (b.length + 1) f (n + 2) [] (by omega) (by omega)
          exact this
        · rw [if_neg (show ¬ (d = 124 ∧ _) from fun z => h124 ((u8 124).mp z.1)), if_neg (show ¬ (d = 36 ∧ _) from fun z => by simp at z), if_neg (by omega)]
          rcases item_rel hc (d :: r) with q | ⟨v, k, g, q1, q2, q3, q4⟩
          · rw [q]
            cases itemHere cls (d :: r) with
            | error k => rfl
            | ok x =>
              dsimp only
              by_cases h5 : hd b (n + 1 + x.2) = 32
              · rw [if_pos h5]
                have hlt := hd_lt (b := b) (n := n + 1 + x.2) (by omega)
                have ih := before_eq hc b cut st F f (n + 1 + x.2) (x.1 :: l) (by omega) (by omega) h5 (fun z => by cases z.2.2)
                rw [← ih, ← e2, List.drop_drop]
                rfl
              · rw [if_neg h5]
                show ruleFrom cls cut f (n + 1 + x.2) _ ((d :: r).drop x.2) = .error (n + 1 + x.2)
                rw [← e2, List.drop_drop]
                cases f with
                | zero => omega
                | succ f =>
                  cases e3 : b.drop (n + 1 + x.2) with
                  | nil => rw [rf_nil]
                  | cons g q =>
                    rw [hd_cons e3] at h5
                    rw [rf_cons, if_neg (show ¬ (g = 10 ∧ _) from fun z => by have := z.2; simp [Half.with_] at this), if_pos (show g ≠ 32 ∨ _ from Or.inl fun z => h5 (by rw [(u8 32).mp z]; rfl))]
          · rw [q1, q2]
            dsimp only
            have e4 : hd b (n + 1 + k) = g.toNat := hd_at (by rw [e2]; exact q3)
            have := (digit_iff g).mp q4
            rw [e4, if_neg (by omega)]
            rfl
def ruleM (cls : List Nat) (b : Bytes) (n : Nat) : Except Nat (Rule × Nat) :=
  if hd b n ≠ (if hd b n = 43 then 43 else 45) then .error n
  else if hd b (n + 1) ≠ 32 then .error (n + 1)
  else if hd b (n + 2) = 94 then (if hd b (n + 3) ≠ 32 then .error (n + 3) else ruleGo cls b (decide (hd b n = 43)) true (beforeL cls b (b.length + 1) (n + 4) []))
  else ruleGo cls b (decide (hd b n = 43)) false (beforeL cls b (b.length + 1) (n + 2) [])
theorem rule_eq {cls : List Nat} (hc : ∀ s ∈ cls, s ≤ 15) {b : Bytes} {n : Nat} {c : UInt8} {t : Bytes} (e : b.drop n = c :: t) (h : c.toNat = 43 ∨ c.toNat = 45) :
    ruleM cls b n = ruleFrom cls (c == 43) (t.length + 1) (n + 1) ⟨false, [], false, [], false⟩ t := by
  have ht := drop_next e
  have hl := drop_lt e
  have hlen : t.length = b.length - (n + 1) := by rw [ht, List.length_drop]
  have hcut : (c == 43) = decide (hd b n = 43) := by
    rw [hd_cons e, Bool.eq_iff_iff, beq_iff_eq, decide_eq_true_eq]
    exact (u8 43).trans ⟨fun z => by rw [z]; rfl, fun z => by show c.toNat = 43; omega⟩
  have hfst : ¬ hd b n ≠ (if hd b n = 43 then 43 else 45) := by
    rw [hd_cons e]
    rcases h with h | h
    · rw [h]; decide
    · rw [h]; decide
  rw [ruleM, if_neg hfst, hcut]
  generalize decide (hd b n = 43) = cut
  rw [hlen, ht]
  by_cases h1 : hd b (n + 1) = 32
  · have hl1 := hd_lt (b := b) (n := n + 1) (by omega)
    rw [if_neg (fun z => z h1)]
    by_cases h2 : hd b (n + 2) = 94
    · have hl2 := hd_lt (b := b) (n := n + 2) (by omega)
      rw [if_pos h2]
      have e1 : ruleFrom cls cut (b.length - (n + 1) + 1) (n + 1) ⟨false, [], false, [], false⟩ (b.drop (n + 1)) = ruleFrom cls cut (b.length - (n + 1)) (n + 3) ⟨true, [], false, [], false⟩ (b.drop (n + 3)) := by
        cases e3 : b.drop (n + 1) with
        | nil => rw [hd_nil e3] at h1; exact absurd h1 (by decide)
        | cons d r =>
          have hr := drop_next e3
          rw [hd_cons e3] at h1
          rw [rf_cons, if_neg (show ¬ (d = 10 ∧ _) from fun z => by simp at z), if_neg (show ¬ (d ≠ 32 ∨ _) from fun z => z.elim (fun z => z ((u8 32).mpr (by show d.toNat = 32; omega))) (fun z => Bool.false_ne_true z)), hr]
          cases e4 : b.drop (n + 1 + 1) with
          | nil =>
            have := hd_nil e4
            rw [this] at h2; exact absurd h2 (by decide)
          | cons g q =>
            have hq := drop_next e4
            have h3 : hd b (n + 2) = g.toNat := hd_cons e4
            rw [h3] at h2
            dsimp only
            rw [if_pos (show g = 94 ∧ _ from ⟨(u8 94).mpr (by show g.toNat = 94; omega), rfl, rfl, rfl⟩), hq]
      rw [e1]
      by_cases h3 : hd b (n + 3) = 32
      · have hl3 := hd_lt (b := b) (n := n + 3) (by omega)
        rw [if_neg (fun z => z h3)]
        exact (before_eq hc b cut true (b.length + 1) (b.length - (n + 1)) (n + 3) [] (by omega) (by omega) h3 (fun z => by cases z.2.1)).symm
      · rw [if_pos h3]
        cases e5 : b.length - (n + 1) with
        | zero => omega
        | succ f =>
          cases e3 : b.drop (n + 3) with
          | nil => rw [rf_nil]
          | cons g q =>
            rw [hd_cons e3] at h3
            rw [rf_cons, if_neg (show ¬ (g = 10 ∧ _) from fun z => by simp at z), if_pos (show g ≠ 32 ∨ _ from Or.inl fun z => h3 (by rw [(u8 32).mp z]; rfl))]
    · rw [if_neg h2]
      exact (before_eq hc b cut false (b.length + 1) (b.length - (n + 1) + 1) (n + 1) [] (by omega) (by omega) h1 (fun z => h2 z.1)).symm
  · rw [if_pos h1]
    cases e3 : b.drop (n + 1) with
    | nil => rw [rf_nil]
    | cons g q =>
      rw [hd_cons e3] at h1
      rw [rf_cons, if_neg (show ¬ (g = 10 ∧ _) from fun z => by simp at z), if_pos (show g ≠ 32 ∨ _ from Or.inl fun z => h1 (by rw [(u8 32).mp z]; rfl))]
end Sm
/-! ## Classes, rules as a whole -/
namespace Sm
open Fh
abbrev Rngs := List (Nat × Nat)
abbrev Clss := List (Nat × Rngs)
def leastR (l : Rngs) : Nat := (l.head?.map fun (x : Nat × Nat) => x.2 + 1).getD 0
def leastC (cs : Clss) : Nat := (cs.head?.map fun (x : Nat × Rngs) => x.1 + 1).getD 0
def rangesL (b : Bytes) : Nat → Nat → Rngs → Except Nat (Rngs × Nat)
  | 0, n, _ => .error n
  | f + 1, n, l => if l = [] ∨ (hd b n = 32 ∧ leastR l ≤ 1114111) then
      (if hd b n ≠ 32 then .error n else match numM [(leastR l, 1114111)] (b.drop (n + 1)) with
        | .error k => .error (n + 1 + k)
        | .ok x => if hd b (n + 1 + x.2) ≠ 45 then .error (n + 1 + x.2) else match numM [(x.1, 1114111)] (b.drop (n + 2 + x.2)) with
          | .error k => .error (n + 2 + x.2 + k)
          | .ok y => rangesL b f (n + 2 + x.2 + y.2) ((x.1, y.1) :: l)) else .ok (l.reverse, n)
def lineEnd {α : Type} (b : Bytes) : Except Nat (α × Nat) → Except Nat (α × Nat)
  | .error k => .error k
  | .ok x => if hd b x.2 = 10 then .ok (x.1, x.2 + 1) else .error x.2
theorem rg_nil {f n : Nat} {l : Rngs} : rangesFrom (f + 1) n l [] = .error n := rfl
theorem rg_cons {f n : Nat} {l : Rngs} {c : UInt8} {b : Bytes} : rangesFrom (f + 1) n l (c :: b) =
    (if c = 10 ∧ l ≠ [] then .ok (l.reverse, n + 1)
    else if c ≠ 32 ∨ LARGEST < leastR l then .error n
    else match numberHere (begins (leastR l) LARGEST) (within (leastR l) LARGEST) b with
      | .error k => .error (n + 1 + k)
      | .ok (x, m) => match b.drop m with
        | [] => .error (n + 1 + m)
        | d :: r => if d ≠ 45 then .error (n + 1 + m) else match numberHere (begins x LARGEST) (within x LARGEST) r with
          | .error k => .error (n + 2 + m + k)
          | .ok (y, j) => rangesFrom f (n + 2 + m + j) ((x, y) :: l) (r.drop j)) := rfl
theorem within_le {lo hi v : Nat} (h : within lo hi v = true) : lo ≤ v ∧ v ≤ hi := by
  unfold within at h
  rw [Bool.and_eq_true, decide_eq_true_eq, decide_eq_true_eq] at h
  exact h
theorem ranges_eq (b : Bytes) : ∀ (F f n : Nat) (l : Rngs), b.length - n < F → b.length - n < f → (l = [] → leastR l ≤ 1114111) → rangesFrom f n l (b.drop n) = lineEnd b (rangesL b F n l)
  | 0, _, _, _, h, _, _ => by omega
  | _, 0, _, _, _, h, _ => by omega
  | F + 1, f + 1, n, l, h1, h2, h0 => by
    rw [rangesL]
    cases e : b.drop n with
    | nil =>
      rw [rg_nil, hd_nil e]
      by_cases hl : l = []
      · rw [if_pos (Or.inl hl), if_pos (by decide)]; rfl
      · rw [if_neg (fun z => z.elim hl (fun z => by have := z.1; omega))]
        show _ = if hd b n = 10 then _ else _
        rw [hd_nil e, if_neg (by decide)]
    | cons c t =>
      have ht := drop_next e
      have hlt := drop_lt e
      rw [rg_cons, hd_cons e]
      by_cases h10 : c.toNat = 10 ∧ l ≠ []
      · rw [if_pos (show c = 10 ∧ l ≠ [] from ⟨(u8 10).mpr h10.1, h10.2⟩), if_neg (fun z => z.elim h10.2 (fun z => by omega))]
        show _ = if hd b n = 10 then _ else _
        rw [hd_cons e, if_pos (by omega)]
      · rw [if_neg (show ¬ (c = 10 ∧ l ≠ []) from fun z => h10 ⟨(u8 10).mp z.1, z.2⟩)]
        by_cases h32 : c.toNat = 32 ∧ leastR l ≤ 1114111
        · rw [if_neg (show ¬ (c ≠ 32 ∨ LARGEST < leastR l) from fun z => z.elim (fun z => z ((u8 32).mpr h32.1)) (fun z => by have : 1114111 < leastR l := z; omega)), if_pos (Or.inr ⟨by omega, h32.2⟩), if_neg (by omega), ht]
          have hn := num_one (hi := 1114111) h32.2 (by decide) (b.drop (n + 1))
          show (match numberHere (begins (leastR l) 1114111) (within (leastR l) 1114111) (b.drop (n + 1)) with | .error k => _ | .ok (x, m) => _) = _
          rcases hn with q | ⟨v, k, g, q1, q2, q3, q4⟩
          · rw [q]
            cases q0 : numberHere (begins (leastR l) 1114111) (within (leastR l) 1114111) (b.drop (n + 1)) with
            | error k => rfl
            | ok x =>
              obtain ⟨x, m⟩ := x
              have hx := num_in (q.trans q0)
              rw [inSp_one] at hx
              have hx2 := within_le hx
              dsimp only
              rw [List.drop_drop]
              cases e2 : b.drop (n + 1 + m) with
              | nil =>
                rw [hd_nil e2, if_pos (by decide)]; rfl
              | cons d r =>
                have hr := drop_next e2
                rw [hd_cons e2]
                dsimp only
                by_cases h45 : d.toNat = 45
                · rw [if_neg (show ¬ d ≠ 45 from fun z => z ((u8 45).mpr h45)), if_neg (by omega)]
                  have er : r = b.drop (n + 2 + m) := by rw [hr]; congr 1; omega
                  rw [er]
                  have hn2 := num_one (lo := x) (hi := 1114111) hx2.2 (by decide) (b.drop (n + 2 + m))
                  show (match numberHere (begins x 1114111) (within x 1114111) (b.drop (n + 2 + m)) with | .error k => _ | .ok (y, j) => _) = _
                  rcases hn2 with p | ⟨v, k, g, p1, p2, p3, p4⟩
                  · rw [p]
                    cases numberHere (begins x 1114111) (within x 1114111) (b.drop (n + 2 + m)) with
                    | error k => rfl
                    | ok y =>
                      obtain ⟨y, j⟩ := y
                      dsimp only
                      rw [List.drop_drop]
                      exact ranges_eq b F f (n + 2 + m + j) ((x, y) :: l) (by omega) (by omega) (fun z => by cases z)
                  · rw [p1, p2]
                    dsimp only
                    have e4 : hd b (n + 2 + m + k) = g.toNat := hd_at p3
                    have := (digit_iff g).mp p4
                    cases F with
                    | zero => have := drop_lt e2; omega
                    | succ F =>
                      rw [rangesL, if_neg (fun z => z.elim (fun z => by cases z) (fun z => by omega))]
                      show _ = if hd b (n + 2 + m + k) = 10 then _ else _
                      rw [e4, if_neg (by omega)]
                · rw [if_pos (show d ≠ 45 from fun z => h45 ((u8 45).mp z)), if_pos (by omega)]; rfl
          · rw [q1, q2]
            dsimp only
            have e4 : hd b (n + 1 + k) = g.toNat := hd_at q3
            have := (digit_iff g).mp q4
            rw [e4, if_pos (by omega)]; rfl
        · rw [if_pos (show c ≠ 32 ∨ LARGEST < leastR l from by
            by_cases hc : c.toNat = 32
            · exact Or.inr (by show 1114111 < leastR l; omega)
            · exact Or.inl fun z => hc ((u8 32).mp z))]
          by_cases hl : l = []
          · have := h0 hl
            rw [if_pos (Or.inl hl), if_pos (by omega)]; rfl
          · rw [if_neg (fun z => z.elim hl (fun z => h32 ⟨by omega, z.2⟩))]
            show _ = if hd b n = 10 then _ else _
            rw [hd_cons e, if_neg (fun z => h10 ⟨by omega, hl⟩)]
def classesL (b : Bytes) : Nat → Nat → Clss → Except Nat (Clss × Nat)
  | 0, n, _ => .error n
  | f + 1, n, cs => if hd b n = 37 ∧ leastC cs ≤ 15 then (match numM [(leastC cs, 15)] (b.drop (n + 1)) with
      | .error k => .error (n + 1 + k)
      | .ok x => match lineEnd b (rangesL b (b.length + 1) (n + 1 + x.2) []) with
        | .error k => .error k
        | .ok y => classesL b f y.2 ((x.1, y.1) :: cs)) else .ok (cs.reverse, n)
def rulesL (cls : List Nat) (b : Bytes) : Nat → Nat → List Rule → Except Nat (List Rule)
  | 0, n, _ => .error n
  | f + 1, n, rs => if n < b.length then (match ruleM cls b n with
      | .error k => .error k
      | .ok x => rulesL cls b f x.2 (x.1 :: rs)) else .ok rs.reverse
def wholeM (b : Bytes) : Except Nat Rules := match classesL b (b.length + 1) 0 [] with
  | .error k => .error k
  | .ok x => match rulesL (x.1.map fun c => c.1) b (b.length + 1) x.2 [] with
    | .error k => .error k
    | .ok rs => .ok ⟨x.1, rs⟩
/-! progress -/
theorem lineEnd_gt {α : Type} {b : Bytes} {x : Except Nat (α × Nat)} {y : α × Nat} (h : lineEnd b x = .ok y) : y.2 ≤ b.length ∧ ∃ m, x = .ok (y.1, m) ∧ y.2 = m + 1 := by
  cases x with
  | error k => cases h
  | ok z =>
    have h2 : (if hd b z.2 = 10 then Except.ok (z.1, z.2 + 1) else .error z.2) = .ok y := h
    by_cases q : hd b z.2 = 10
    · rw [if_pos q] at h2
      cases h2
      have := hd_lt (b := b) (n := z.2) (by omega)
      exact ⟨by show z.2 + 1 ≤ _; omega, z.2, rfl, rfl⟩
    · rw [if_neg q] at h2; cases h2
theorem rangesL_ge (b : Bytes) : ∀ (F n : Nat) (l : Rngs) (x : Rngs × Nat), rangesL b F n l = .ok x → n ≤ x.2
  | 0, _, _, _, h => by cases h
  | F + 1, n, l, x, h => by
    rw [rangesL] at h
    by_cases h1 : l = [] ∨ (hd b n = 32 ∧ leastR l ≤ 1114111)
    · rw [if_pos h1] at h
      by_cases h2 : hd b n ≠ 32
      · rw [if_pos h2] at h; cases h
      · rw [if_neg h2] at h
        cases q : numM [(leastR l, 1114111)] (b.drop (n + 1)) with
        | error k => rw [q] at h; cases h
        | ok y =>
          rw [q] at h
          dsimp only at h
          by_cases h3 : hd b (n + 1 + y.2) ≠ 45
          · rw [if_pos h3] at h; cases h
          · rw [if_neg h3] at h
            cases q2 : numM [(y.1, 1114111)] (b.drop (n + 2 + y.2)) with
            | error k => rw [q2] at h; cases h
            | ok z =>
              rw [q2] at h
              have := rangesL_ge b F _ _ x h
              omega
    · rw [if_neg h1] at h
      cases h
      exact Nat.le_refl _
theorem ruleEnd_gt {b : Bytes} {cut st : Bool} {bf : List Item} {x : Except Nat ((List Item × Bool) × Nat)} {y : Rule × Nat} (h : ruleEnd b cut st bf x = .ok y) : ∃ z m, x = .ok (z, m) ∧ y.2 = m + 1 ∧ m < b.length := by
  cases x with
  | error k => cases h
  | ok z =>
    have h2 : (if hd b z.2 = 10 then Except.ok ((⟨cut, st, bf, z.1.1, z.1.2⟩ : Rule), z.2 + 1) else .error z.2) = .ok y := h
    by_cases q : hd b z.2 = 10
    · rw [if_pos q] at h2
      cases h2
      exact ⟨z.1, z.2, rfl, rfl, hd_lt (by omega)⟩
    · rw [if_neg q] at h2; cases h2
theorem behindL_ge (cls : List Nat) (b : Bytes) : ∀ (F n : Nat) (l : List Item) (x : (List Item × Bool) × Nat), behindL cls b F n l = .ok x → n ≤ x.2
  | 0, _, _, _, h => by cases h
  | F + 1, n, l, x, h => by
    rw [behindL] at h
    by_cases h1 : hd b n = 32
    · rw [if_pos h1] at h
      by_cases h2 : hd b (n + 1) = 36
      · rw [if_pos h2] at h; cases h; show n ≤ n + 2; omega
      · rw [if_neg h2] at h
        cases q : itemM cls (b.drop (n + 1)) with
        | error k => rw [q] at h; cases h
        | ok y =>
          rw [q] at h
          have := behindL_ge cls b F _ _ x h
          omega
    · rw [if_neg h1] at h; cases h; exact Nat.le_refl _
theorem beforeL_ge (cls : List Nat) (b : Bytes) : ∀ (F n : Nat) (l : List Item) (x : List Item × Nat), beforeL cls b F n l = .ok x → n ≤ x.2
  | 0, _, _, _, h => by cases h
  | F + 1, n, l, x, h => by
    rw [beforeL] at h
    by_cases h1 : hd b n = 124
    · rw [if_pos h1] at h; cases h; show n ≤ n + 1; omega
    · rw [if_neg h1] at h
      cases q : itemM cls (b.drop n) with
      | error k => rw [q] at h; cases h
      | ok y =>
        rw [q] at h
        dsimp only at h
        by_cases h2 : hd b (n + y.2) = 32
        · rw [if_pos h2] at h
          have := beforeL_ge cls b F _ _ x h
          omega
        · rw [if_neg h2] at h; cases h
theorem ruleGo_gt {cls : List Nat} {b : Bytes} {cut st : Bool} {F n : Nat} {y : Rule × Nat} (h : ruleGo cls b cut st (beforeL cls b F n []) = .ok y) : n < y.2 ∧ y.2 ≤ b.length := by
  cases q : beforeL cls b F n [] with
  | error k => rw [q] at h; cases h
  | ok x =>
    rw [q] at h
    obtain ⟨z, m, e1, e2, e3⟩ := ruleEnd_gt h
    have h1 := beforeL_ge _ _ _ _ _ _ q
    have h2 : x.2 ≤ m := behindL_ge _ _ _ _ _ _ e1
    omega
theorem ruleM_gt {cls : List Nat} {b : Bytes} {n : Nat} {y : Rule × Nat} (h : ruleM cls b n = .ok y) : n < y.2 ∧ y.2 ≤ b.length := by
  unfold ruleM at h
  by_cases c1 : hd b n ≠ (if hd b n = 43 then 43 else 45)
  · rw [if_pos c1] at h; cases h
  · rw [if_neg c1] at h
    by_cases c2 : hd b (n + 1) ≠ 32
    · rw [if_pos c2] at h; cases h
    · rw [if_neg c2] at h
      by_cases c3 : hd b (n + 2) = 94
      · rw [if_pos c3] at h
        by_cases c4 : hd b (n + 3) ≠ 32
        · rw [if_pos c4] at h; cases h
        · rw [if_neg c4] at h
          have := ruleGo_gt h; omega
      · rw [if_neg c3] at h
        have := ruleGo_gt h; omega
theorem rf0 {f n : Nat} {cs : Clss} {rs : List Rule} : rulesFrom f n cs rs [] = .ok ⟨cs.reverse, rs.reverse⟩ := by cases f <;> rfl
theorem rf1 {f n : Nat} {cs : Clss} {rs : List Rule} {c : UInt8} {b : Bytes} : rulesFrom (f + 1) n cs rs (c :: b) =
    (if c = 37 ∧ rs.isEmpty = true ∧ leastC cs < CLASSES then (match numberHere (begins (leastC cs) (CLASSES - 1)) (within (leastC cs) (CLASSES - 1)) b with
      | .error k => .error (n + 1 + k)
      | .ok (x, m) => match rangesFrom (b.length + 1) (n + 1 + m) [] (b.drop m) with
        | .error k => .error k
        | .ok (l, k) => rulesFrom f k ((x, l) :: cs) rs ((c :: b).drop (k - n)))
    else if c = 43 ∨ c = 45 then (match ruleFrom (cs.map fun (x : Nat × Rngs) => x.1) (c == 43) (b.length + 1) (n + 1) ⟨false, [], false, [], false⟩ b with
      | .error k => .error k
      | .ok (r, k) => rulesFrom f k cs (r :: rs) ((c :: b).drop (k - n)))
    else .error n) := rfl
theorem ruleFrom_perm {cl cl' : List Nat} (h1 : cl = cl') : ruleFrom cl = ruleFrom cl' := by rw [h1]
theorem rules_eq (b : Bytes) (cs : Clss) (hc : ∀ s ∈ (cs.map fun c => c.1), s ≤ 15) : ∀ (F f n : Nat) (rs : List Rule), b.length - n < F → b.length - n < f → (rs ≠ [] ∨ ¬ (hd b n = 37 ∧ leastC cs ≤ 15)) →
    rulesFrom f n cs rs (b.drop n) = match rulesL (cs.map fun c => c.1) b F n rs with
      | .error k => .error k
      | .ok x => .ok ⟨cs.reverse, x⟩
  | 0, _, _, _, h, _, _ => by omega
  | _, 0, _, _, _, h, _ => by omega
  | F + 1, f + 1, n, rs, h1, h2, h3 => by
    rw [rulesL]
    cases e : b.drop n with
    | nil =>
      have : ¬ n < b.length := by
        intro z
        have := List.drop_eq_getElem_cons z
        rw [e] at this; cases this
      rw [rf0, if_neg this]
    | cons c t =>
      have ht := drop_next e
      have hlt := drop_lt e
      rw [rf1, if_pos hlt, if_neg (show ¬ (c = 37 ∧ rs.isEmpty = true ∧ leastC cs < CLASSES) from fun z => h3.elim (fun q => q (by simpa using z.2.1)) (fun q => q ⟨by rw [hd_cons e, (u8 37).mp z.1]; rfl, by have : leastC cs < 16 := z.2.2; omega⟩))]
      by_cases h4 : c.toNat = 43 ∨ c.toNat = 45
      · rw [if_pos (show c = 43 ∨ c = 45 from h4.imp (fun z => (u8 43).mpr z) (fun z => (u8 45).mpr z)), rule_eq hc e h4]
        cases q : ruleFrom (cs.map fun c => c.1) (c == 43) (t.length + 1) (n + 1) ⟨false, [], false, [], false⟩ t with
        | error k => rfl
        | ok x =>
          obtain ⟨r, k⟩ := x
          have hk := ruleM_gt (rule_eq hc e h4 |>.trans q)
          dsimp only at hk ⊢
          have hd2 : (c :: t).drop (k - n) = b.drop k := by rw [← e, List.drop_drop]; congr 1; omega
          rw [hd2]
          exact rules_eq b cs hc F f k (r :: rs) (by omega) (by omega) (Or.inl (by simp))
      · rw [if_neg (show ¬ (c = 43 ∨ c = 45) from fun z => h4 (z.imp (fun z => (u8 43).mp z) (fun z => (u8 45).mp z)))]
        have : ruleM (cs.map fun c => c.1) b n = .error n := by
          unfold ruleM
          rw [if_pos]
          rw [hd_cons e, if_neg (by omega)]
          omega
        rw [this]
theorem isBegun_rev (v : Nat) (sp : List (Nat × Nat)) : isBegunM v sp.reverse = isBegunM v sp := List.any_reverse
theorem inSp_rev (v : Nat) (sp : List (Nat × Nat)) : inSp sp.reverse v = inSp sp v := List.any_reverse
theorem numL_rev (sp : List (Nat × Nat)) : ∀ (r : Bytes) (f : Option Nat) (k : Nat), numL sp.reverse f k r = numL sp f k r
  | [], _, _ => rfl
  | c :: r, f, k => by rw [numL, numL, isBegun_rev, numL_rev sp r]
theorem numM_rev (cls : List Nat) (r : Bytes) : numM (own cls.reverse) r = numM (own cls) r := by
  unfold numM own
  rw [List.map_reverse, numL_rev]
  cases numL (cls.map fun s => (s, s)) none 0 r with
  | error k => rfl
  | ok x =>
    obtain ⟨o, k⟩ := x
    cases o with
    | none => rfl
    | some v =>
      show (if inSp _ v = true then _ else _) = (if inSp _ v = true then _ else _)
      rw [inSp_rev]
theorem atomM_rev (cls : List Nat) (r : Bytes) : atomM cls.reverse r = atomM cls r := by
  cases r with
  | nil => rfl
  | cons c r =>
    rw [atomM, atomM, numM_rev]
    have e : (cls.reverse ≠ []) = (cls ≠ []) := by simp
    simp only [e]
theorem itemM_rev (cls : List Nat) (r : Bytes) : itemM cls.reverse r = itemM cls r := by unfold itemM; rw [atomM_rev]
theorem beforeL_rev (cls : List Nat) (b : Bytes) : ∀ (F n : Nat) (l : List Item), beforeL cls.reverse b F n l = beforeL cls b F n l
  | 0, _, _ => rfl
  | F + 1, n, l => by
    rw [beforeL, beforeL, itemM_rev]
    cases itemM cls (b.drop n) with
    | error k => rfl
    | ok x =>
      dsimp only
      rw [beforeL_rev cls b F]
theorem behindL_rev (cls : List Nat) (b : Bytes) : ∀ (F n : Nat) (l : List Item), behindL cls.reverse b F n l = behindL cls b F n l
  | 0, _, _ => rfl
  | F + 1, n, l => by
    rw [behindL, behindL, itemM_rev]
    cases itemM cls (b.drop (n + 1)) with
    | error k => rfl
    | ok x =>
      dsimp only
      rw [behindL_rev cls b F]
theorem ruleGo_rev (cls : List Nat) (b : Bytes) (cut st : Bool) (x : Except Nat (List Item × Nat)) : ruleGo cls.reverse b cut st x = ruleGo cls b cut st x := by
  cases x with
  | error k => rfl
  | ok x => show ruleEnd _ _ _ _ _ = ruleEnd _ _ _ _ _; rw [behindL_rev]
theorem ruleM_rev (cls : List Nat) (b : Bytes) (n : Nat) : ruleM cls.reverse b n = ruleM cls b n := by
  unfold ruleM
  simp only [beforeL_rev, ruleGo_rev]
theorem rulesL_rev (cls : List Nat) (b : Bytes) : ∀ (F n : Nat) (rs : List Rule), rulesL cls.reverse b F n rs = rulesL cls b F n rs
  | 0, _, _ => rfl
  | F + 1, n, rs => by
    rw [rulesL, rulesL, ruleM_rev]
    cases ruleM cls b n with
    | error k => rfl
    | ok x =>
      dsimp only
      rw [rulesL_rev cls b F]
theorem leastC_le {cs : Clss} (hc : ∀ s ∈ (cs.map fun c => c.1), s ≤ 15) : leastC cs ≤ 16 := by
  cases cs with
  | nil => show 0 ≤ 16; omega
  | cons c r =>
    have := hc c.1 (by simp)
    show c.1 + 1 ≤ 16
    omega
theorem whole_go (b : Bytes) : ∀ (F f n : Nat) (cs : Clss), b.length - n < F → b.length - n < f → (∀ s ∈ (cs.map fun c => c.1), s ≤ 15) →
    rulesFrom f n cs [] (b.drop n) = match classesL b F n cs with
      | .error k => .error k
      | .ok x => match rulesL (x.1.map fun c => c.1) b (b.length + 1) x.2 [] with
        | .error k => .error k
        | .ok rs => .ok ⟨x.1, rs⟩
  | 0, _, _, _, h, _, _ => by omega
  | _, 0, _, _, _, h, _ => by omega
  | F + 1, f + 1, n, cs, h1, h2, hc => by
    rw [classesL]
    by_cases h3 : hd b n = 37 ∧ leastC cs ≤ 15
    · rw [if_pos h3]
      cases e : b.drop n with
      | nil => have := hd_nil e; omega
      | cons c t =>
        have ht := drop_next e
        have hlt := drop_lt e
        have h37 : c.toNat = 37 := by have := hd_cons e; omega
        rw [rf1, if_pos (show c = 37 ∧ ([] : List Rule).isEmpty = true ∧ leastC cs < CLASSES from ⟨(u8 37).mpr h37, rfl, by show leastC cs < 16; omega⟩), ht]
        have hn := num_one (hi := 15) h3.2 (by decide) (b.drop (n + 1))
        show (match numberHere (begins (leastC cs) 15) (within (leastC cs) 15) (b.drop (n + 1)) with | .error k => _ | .ok (x, m) => _) = _
        rcases hn with q | ⟨v, k, g, q1, q2, q3, q4⟩
        · rw [q]
          cases q0 : numberHere (begins (leastC cs) 15) (within (leastC cs) 15) (b.drop (n + 1)) with
          | error k => rfl
          | ok x =>
            obtain ⟨x, m⟩ := x
            have hx := num_in (q.trans q0)
            rw [inSp_one] at hx
            have hx2 := within_le hx
            dsimp only
            rw [List.drop_drop]
            have hr := ranges_eq b (b.length + 1) ((b.drop (n + 1)).length + 1) (n + 1 + m) [] (by omega) (by rw [List.length_drop]; omega) (fun _ => by decide)
            rw [hr]
            cases q2 : lineEnd b (rangesL b (b.length + 1) (n + 1 + m) []) with
            | error k => rfl
            | ok y =>
              obtain ⟨l, k⟩ := y
              obtain ⟨hk, m2, e2, e3⟩ := lineEnd_gt q2
              have hge := rangesL_ge _ _ _ _ _ e2
              dsimp only at hk e3 hge ⊢
              have hd2 : (c :: b.drop (n + 1)).drop (k - n) = b.drop k := by rw [← ht, ← e, List.drop_drop]; congr 1; omega
              rw [hd2]
              exact whole_go b F f k ((x, l) :: cs) (by omega) (by omega) (by
                intro s hs
                rw [List.map_cons, List.mem_cons] at hs
                rcases hs with rfl | hs
                · exact hx2.2
                · exact hc s hs)
        · rw [q1, q2]
          dsimp only
          have e4 : hd b (n + 1 + k) = g.toNat := hd_at q3
          have := (digit_iff g).mp q4
          rw [rangesL, if_pos (Or.inl rfl), if_pos (by omega)]
          rfl
    · rw [if_neg h3]
      dsimp only
      rw [rules_eq b cs hc (b.length + 1) (f + 1) n [] (by omega) h2 (Or.inr h3), List.map_reverse, rulesL_rev]
/-- RULES' TEXTS -/
theorem wholeM_eq (b : Bytes) : wholeM b = rulesRead b := by
  have h := whole_go b (b.length + 1) (b.length + 1) 0 [] (by omega) (by omega) (by simp)
  exact h.symm
end Sm
/-! ## Bounds; the call rules -/
namespace Sm
open Fh
def longA : Atom → Bool
  | .lit t => decide (32 < t.length)
  | _ => false
def beyondI (l : List Item) : Bool := decide (16 < l.length) || l.any fun i => longA i.atom
def beyondM (R : Rules) : Bool := decide (256 < R.rules.length) || (R.classes.any (fun x => decide (256 < x.2.length)) || R.rules.any fun r => beyondI r.before || beyondI r.behind)
theorem small_eq (R : Rules) : R.small = !beyondM R := by
  have nle : ∀ a b : Nat, decide (a ≤ b) = !decide (b < a) := fun a b => by
    rw [← decide_not]
    exact decide_eq_decide.mpr (by omega)
  unfold Rules.small beyondM
  rw [nle, Bool.not_or, Bool.not_or]
  congr 1
  congr 1
  · rw [List.not_any_eq_all_not]
    congr 1
    funext x
    exact nle _ _
  · rw [List.not_any_eq_all_not]
    congr 1
    funext r
    have re : ∀ a b c d : Bool, (!((a || c) || (b || d))) = (!a && (!b && (!c && !d))) := by decide
    unfold beyondI
    rw [nle, nle, re, List.not_any_eq_all_not, List.not_any_eq_all_not, ← List.all_append]
    show (!decide (16 < r.before.length) && (!decide (16 < r.behind.length) && _)) = (!decide (16 < r.before.length) && (!decide (16 < r.behind.length) && _))
    refine congrArg (fun z => !decide (16 < r.before.length) && (!decide (16 < r.behind.length) && z)) ?_
    refine congrArg (fun z => List.all _ z) ?_
    funext i
    obtain ⟨a, lo, hi⟩ := i
    cases a with
    | any => rfl
    | cls k => rfl
    | lit t => exact nle _ _
end Sm
namespace Sm
open Fh
theorem classesND (b : Bytes) : ∀ (F n : Nat) (cs : Clss) (y : Clss × Nat), (cs.map fun c => c.1).Nodup → (∀ c ∈ cs, c.1 < leastC cs) → classesL b F n cs = .ok y → (y.1.map fun c => c.1).Nodup
  | 0, _, _, _, _, _, h => by cases h
  | F + 1, n, cs, y, h1, h2, h => by
    rw [classesL] at h
    by_cases c1 : hd b n = 37 ∧ leastC cs ≤ 15
    · rw [if_pos c1] at h
      cases q : numM [(leastC cs, 15)] (b.drop (n + 1)) with
      | error k => rw [q] at h; cases h
      | ok x =>
        have hin := num_in (v := x.1) (k := x.2) q
        rw [inSp_one] at hin
        have hin2 := within_le hin
        rw [q] at h
        dsimp only at h
        cases q2 : lineEnd b (rangesL b (b.length + 1) (n + 1 + x.2) []) with
        | error k => rw [q2] at h; cases h
        | ok z =>
          rw [q2] at h
          refine classesND b F _ ((x.1, z.1) :: cs) y ?_ ?_ h
          · rw [List.map_cons, List.nodup_cons]
            refine ⟨fun hm => ?_, h1⟩
            obtain ⟨c, hc, e⟩ := List.mem_map.mp hm
            have := h2 c hc
            have e2 : c.1 = x.1 := e
            omega
          · intro c hc
            show c.1 < x.1 + 1
            rw [List.mem_cons] at hc
            rcases hc with rfl | hc
            · exact Nat.lt_succ_self _
            · have := h2 c hc; omega
    · rw [if_neg c1] at h
      cases h
      show (cs.reverse.map fun c => c.1).Nodup
      rw [List.map_reverse]
      exact (List.reverse_perm _).nodup_iff.mpr h1
theorem wholeND {b : Bytes} {R : Rules} (h : wholeM b = .ok R) : (R.classes.map fun c => c.1).Nodup := by
  unfold wholeM at h
  cases q : classesL b (b.length + 1) 0 [] with
  | error k => rw [q] at h; cases h
  | ok x =>
    rw [q] at h
    dsimp only at h
    cases q2 : rulesL (x.1.map fun c => c.1) b (b.length + 1) x.2 [] with
    | error k => rw [q2] at h; cases h
    | ok rs =>
      rw [q2] at h
      cases h
      exact classesND b _ _ [] x .nil (fun c hc => nomatch hc) q
theorem lookup_nd {n : Nat} {rs : Rngs} : ∀ {cs : Clss}, (cs.map fun c => c.1).Nodup → (n, rs) ∈ cs → cs.lookup n = some rs
  | [], _, h => by cases h
  | (a, r) :: cs, hn, h => by
    rw [List.map_cons, List.nodup_cons] at hn
    rw [List.mem_cons] at h
    rcases h with h | h
    · cases h
      have e : (n == n) = true := beq_self_eq_true n
      simp only [List.lookup, e]
    · have hm : n ∈ cs.map fun c => c.1 := List.mem_map.mpr ⟨_, h, rfl⟩
      have e : (n == a) = false := by
        rw [beq_eq_false_iff_ne]
        rintro rfl
        exact hn.1 hm
      simp only [List.lookup, e]
      exact lookup_nd hn.2 h
/-- what rules(t) answers -/
def rulesAns (b : Bytes) : List Int := if 65536 < b.length then [-6] else match wholeM b with
  | .error k => [-5, (k : Int)]
  | .ok R => if beyondM R = true then [-6] else [(R.rules.length : Int)]
theorem rulesAns_eq (t : List Int) : PyYqfhba.rules t = rulesAns (FbNeutral.bytesOf t) := by
  show FbNeutral.numbers (FhSegs.answer (.rules (FbNeutral.bytesOf t))) = _
  generalize FbNeutral.bytesOf t = b
  show FbNeutral.numbers (if RULETEXT < b.length then FhSegs.says (-6) else _) = _
  unfold rulesAns
  by_cases h : 65536 < b.length
  · rw [if_pos h, if_pos (show RULETEXT < b.length from h)]; rfl
  · rw [if_neg h, if_neg (show ¬ RULETEXT < b.length from h), ← wholeM_eq]
    cases wholeM b with
    | error k => rfl
    | ok R =>
      dsimp only
      rw [small_eq]
      cases beyondM R <;> rfl
end Sm
/-! ## Where rules fit: places moved over characters against rows that are left -/
namespace Sm
open Fh
def atAt (R : Rules) (W : List Nat) (a : Atom) (k : Nat) : Bool := (a.rest R (W.drop k)).isSome
theorem rest_drop {R : Rules} {a : Atom} {t r : List Nat} (h : a.rest R t = some r) : a.size ≤ t.length ∧ r = t.drop a.size := by
  cases a with
  | any =>
    cases t with
    | nil => cases h
    | cons x t => cases h; exact ⟨Nat.succ_le_succ (Nat.zero_le _), rfl⟩
  | cls k =>
    cases t with
    | nil => cases h
    | cons x t =>
      have h2 : (if R.inClass k x = true then some t else none) = some r := h
      by_cases c : R.inClass k x = true
      · rw [if_pos c] at h2; cases h2; exact ⟨Nat.succ_le_succ (Nat.zero_le _), rfl⟩
      · rw [if_neg c] at h2; cases h2
  | lit l =>
    have h2 : (if l.isPrefixOf t = true then some (t.drop l.length) else none) = some r := by
      cases t <;> exact h
    by_cases c : l.isPrefixOf t = true
    · rw [if_pos c] at h2; cases h2
      exact ⟨(List.isPrefixOf_iff_prefix.mp c).length_le, rfl⟩
    · rw [if_neg c] at h2; cases h2
def Good (W : List Nat) (s : Left) : Prop := ∀ z ∈ s, z.1 ≤ W.length ∧ z.2 = W.drop z.1
def Has (s : Left) (k : Nat) : Prop := ∃ z ∈ s, z.1 = k
theorem Good.cons {W : List Nat} {x : Nat × List Nat} {s : Left} (h : Good W (x :: s)) : (x.1 ≤ W.length ∧ x.2 = W.drop x.1) ∧ Good W s := ⟨h x List.mem_cons_self, fun z hz => h z (List.mem_cons_of_mem _ hz)⟩
theorem Good.mk {W : List Nat} {x : Nat × List Nat} {s : Left} (h1 : x.1 ≤ W.length ∧ x.2 = W.drop x.1) (h2 : Good W s) : Good W (x :: s) := fun z hz => by
  rcases List.mem_cons.mp hz with rfl | hz
  · exact h1
  · exact h2 z hz
theorem has_cons {x : Nat × List Nat} {s : Left} {k : Nat} : Has (x :: s) k ↔ x.1 = k ∨ Has s k := by
  constructor
  · rintro ⟨z, hz, e⟩
    rcases List.mem_cons.mp hz with rfl | hz
    · exact Or.inl e
    · exact Or.inr ⟨z, hz, e⟩
  · rintro (e | ⟨z, hz, e⟩)
    · exact ⟨x, List.mem_cons_self, e⟩
    · exact ⟨z, List.mem_cons_of_mem _ hz, e⟩
theorem has_nil {k : Nat} : ¬ Has [] k := fun ⟨_, h, _⟩ => nomatch h
theorem join_ok (W : List Nat) (l m : Left) : Good W l → Good W m → Good W (joinedLeft l m) ∧ ∀ k, Has (joinedLeft l m) k ↔ Has l k ∨ Has m k := by
  fun_induction joinedLeft l m with
  | case1 m => exact fun _ h => ⟨h, fun k => ⟨Or.inr, fun z => z.elim (fun z => absurd z has_nil) id⟩⟩
  | case2 l _ => exact fun h _ => ⟨h, fun k => ⟨Or.inl, fun z => z.elim id (fun z => absurd z has_nil)⟩⟩
  | case3 x l y m h ih =>
    intro g1 g2
    have r := ih g1.cons.2 g2
    exact ⟨Good.mk g1.cons.1 r.1, fun k => by rw [has_cons, r.2, has_cons, has_cons, or_assoc]⟩
  | case4 x l y m h e ih =>
    intro g1 g2
    have r := ih g1.cons.2 g2.cons.2
    refine ⟨Good.mk g1.cons.1 r.1, fun k => ?_⟩
    rw [has_cons, r.2, has_cons, has_cons, ← e]
    constructor
    · rintro (z | z | z)
      · exact Or.inl (Or.inl z)
      · exact Or.inl (Or.inr z)
      · exact Or.inr (Or.inr z)
    · rintro ((z | z) | z | z)
      · exact Or.inl z
      · exact Or.inr (Or.inl z)
      · exact Or.inl z
      · exact Or.inr (Or.inr z)
  | case5 x l y m h e ih =>
    intro g1 g2
    have r := ih g1 g2.cons.2
    refine ⟨Good.mk g2.cons.1 r.1, fun k => ?_⟩
    rw [has_cons, r.2, has_cons, has_cons]
    constructor
    · rintro (z | z | z)
      · exact Or.inr (Or.inl z)
      · exact Or.inl z
      · exact Or.inr (Or.inr z)
    · rintro (z | z | z)
      · exact Or.inr (Or.inl z)
      · exact Or.inl z
      · exact Or.inr (Or.inr z)
theorem once_ok {R : Rules} {W : List Nat} {a : Atom} : ∀ {s : Left}, Good W s → Good W (onceEach R a s) ∧ ∀ k, Has (onceEach R a s) k ↔ ∃ j, Has s j ∧ atAt R W a j = true ∧ k = j + a.size := by
  intro s
  induction s with
  | nil => exact fun _ => ⟨fun z hz => (nomatch hz), fun k => ⟨fun z => absurd z has_nil, fun ⟨_, z, _⟩ => absurd z has_nil⟩⟩
  | cons x s ih =>
    intro g
    have r := ih g.cons.2
    obtain ⟨hx1, hx2⟩ := g.cons.1
    unfold onceEach at r ⊢
    rw [List.filterMap_cons]
    cases e : a.rest R x.2 with
    | none =>
      refine ⟨r.1, fun k => ?_⟩
      rw [show (Option.map (fun r => (x.1 + a.size, r)) (none : Option (List Nat))) = none from rfl]
      dsimp only
      rw [r.2]
      constructor
      · rintro ⟨j, h1, h2, h3⟩
        exact ⟨j, has_cons.mpr (Or.inr h1), h2, h3⟩
      · rintro ⟨j, h1, h2, h3⟩
        rcases has_cons.mp h1 with h1 | h1
        · unfold atAt at h2
          rw [← h1, ← hx2, e] at h2
          cases h2
        · exact ⟨j, h1, h2, h3⟩
    | some t =>
      have d := rest_drop e
      rw [show (Option.map (fun r => (x.1 + a.size, r)) (some t)) = some (x.1 + a.size, t) from rfl]
      dsimp only
      refine ⟨Good.mk ⟨?_, ?_⟩ r.1, fun k => ?_⟩
      · show x.1 + a.size ≤ W.length
        have := d.1
        rw [hx2, List.length_drop] at this
        omega
      · show t = W.drop (x.1 + a.size)
        rw [d.2, hx2, List.drop_drop]
      · rw [has_cons, r.2]
        constructor
        · rintro (h | ⟨j, h1, h2, h3⟩)
          · refine ⟨x.1, has_cons.mpr (Or.inl rfl), ?_, h.symm⟩
            unfold atAt
            rw [← hx2, e]; rfl
          · exact ⟨j, has_cons.mpr (Or.inr h1), h2, h3⟩
        · rintro ⟨j, h1, h2, h3⟩
          rcases has_cons.mp h1 with h1 | h1
          · exact Or.inl (by show x.1 + a.size = k; omega)
          · exact Or.inr ⟨j, h1, h2, h3⟩
def tOk (R : Rules) (W : List Nat) (a : Atom) : Nat → Nat → Bool
  | 0, _ => true
  | n + 1, k => atAt R W a k && tOk R W a n (k + a.size)
theorem times_ok {R : Rules} {W : List Nat} {a : Atom} : ∀ (lo ex : Nat) (s : Left), Good W s → Good W (timesEach R a lo ex s) ∧
    ∀ k, Has (timesEach R a lo ex s) k ↔ ∃ j n, Has s j ∧ lo ≤ n ∧ n ≤ lo + ex ∧ tOk R W a n j = true ∧ k = j + n * a.size
  | 0, 0, s, g => by
    rw [timesEach]
    exact ⟨g, fun k => ⟨fun h => ⟨k, 0, h, Nat.le_refl _, Nat.le_refl _, rfl, by rw [Nat.zero_mul]; rfl⟩, fun ⟨j, n, h, _, h2, _, h4⟩ => by
      obtain rfl : n = 0 := by omega
      rw [Nat.zero_mul] at h4
      rw [h4]; exact h⟩⟩
  | 0, e + 1, s, g => by
    unfold timesEach
    by_cases c : s.isEmpty = true
    · rw [if_pos c]
      have : s = [] := List.isEmpty_iff.mp c
      subst this
      exact ⟨g, fun k => ⟨fun z => absurd z has_nil, fun ⟨_, _, z, _⟩ => absurd z has_nil⟩⟩
    · rw [if_neg c]
      have o := once_ok (R := R) (a := a) g
      have r := times_ok (R := R) (a := a) 0 e _ o.1
      have q := join_ok W s _ g r.1
      refine ⟨q.1, fun k => ?_⟩
      rw [q.2, r.2]
      constructor
      · rintro (h | ⟨j, n, h1, h2, h3, h4, h5⟩)
        · exact ⟨k, 0, h, Nat.le_refl _, Nat.zero_le _, rfl, by rw [Nat.zero_mul]; rfl⟩
        · obtain ⟨i, i1, i2, i3⟩ := (o.2 j).mp h1
          refine ⟨i, n + 1, i1, Nat.zero_le _, by omega, ?_, ?_⟩
          · rw [tOk, i2, ← i3, h4]; rfl
          · rw [Nat.succ_mul]; omega
      · rintro ⟨j, n, h1, h2, h3, h4, h5⟩
        cases n with
        | zero =>
          rw [Nat.zero_mul] at h5
          exact Or.inl (by rw [h5]; exact h1)
        | succ n =>
          rw [tOk, Bool.and_eq_true] at h4
          refine Or.inr ⟨j + a.size, n, (o.2 _).mpr ⟨j, h1, h4.1, rfl⟩, Nat.zero_le _, by omega, h4.2, ?_⟩
          rw [Nat.succ_mul] at h5; omega
  | l + 1, e, s, g => by
    unfold timesEach
    by_cases c : s.isEmpty = true
    · rw [if_pos c]
      have : s = [] := List.isEmpty_iff.mp c
      subst this
      exact ⟨g, fun k => ⟨fun z => absurd z has_nil, fun ⟨_, _, z, _⟩ => absurd z has_nil⟩⟩
    · rw [if_neg c]
      have o := once_ok (R := R) (a := a) g
      have r := times_ok (R := R) (a := a) l e _ o.1
      refine ⟨r.1, fun k => ?_⟩
      rw [r.2]
      constructor
      · rintro ⟨j, n, h1, h2, h3, h4, h5⟩
        obtain ⟨i, i1, i2, i3⟩ := (o.2 j).mp h1
        refine ⟨i, n + 1, i1, by omega, by omega, ?_, ?_⟩
        · rw [tOk, i2, ← i3, h4]; rfl
        · rw [Nat.succ_mul]; omega
      · rintro ⟨j, n, h1, h2, h3, h4, h5⟩
        cases n with
        | zero => omega
        | succ n =>
          rw [tOk, Bool.and_eq_true] at h4
          refine ⟨j + a.size, n, (o.2 _).mpr ⟨j, h1, h4.1, rfl⟩, by omega, by omega, h4.2, ?_⟩
          rw [Nat.succ_mul] at h5; omega
def Reach (R : Rules) (W : List Nat) (Z : Nat → Bool) : List Item → Nat → Prop
  | [], k => Z k = true
  | i :: l, k => ∃ n, i.least ≤ n ∧ n ≤ i.most ∧ tOk R W i.atom n k = true ∧ Reach R W Z l (k + n * i.atom.size)
theorem rests_any {R : Rules} {W : List Nat} {f : Nat × List Nat → Bool} : ∀ (l : List Item) (s : Left), Good W s → ((rests R l s).any f = true ↔ ∃ k, Has s k ∧ Reach R W (fun k => f (k, W.drop k)) l k)
  | [], s, g => by
    show s.any f = true ↔ _
    rw [List.any_eq_true]
    constructor
    · rintro ⟨z, hz, h⟩
      refine ⟨z.1, ⟨z, hz, rfl⟩, ?_⟩
      show f (z.1, W.drop z.1) = true
      rw [← (g z hz).2]; exact h
    · rintro ⟨k, ⟨z, hz, rfl⟩, h⟩
      refine ⟨z, hz, ?_⟩
      have h2 : f (z.1, W.drop z.1) = true := h
      rw [← (g z hz).2] at h2; exact h2
  | i :: l, s, g => by
    show (rests R l (if i.most < i.least then [] else timesEach R i.atom i.least (i.most - i.least) s)).any f = true ↔ _
    by_cases c : i.most < i.least
    · rw [if_pos c, rests_any (W := W) l [] (fun z hz => (nomatch hz))]
      constructor
      · rintro ⟨k, h, _⟩
        exact absurd h has_nil
      · rintro ⟨k, h, n, h1, h2, _⟩
        omega
    · rw [if_neg c]
      have t := times_ok (R := R) (a := i.atom) i.least (i.most - i.least) s g
      rw [rests_any l _ t.1]
      constructor
      · rintro ⟨k, h, r⟩
        obtain ⟨j, n, h1, h2, h3, h4, rfl⟩ := (t.2 k).mp h
        exact ⟨j, h1, n, h2, by omega, h4, r⟩
      · rintro ⟨j, h1, n, h2, h3, h4, r⟩
        exact ⟨_, (t.2 _).mpr ⟨j, n, h1, h2, by omega, h4, rfl⟩, r⟩
/-! shifts -/
theorem at_shift {R : Rules} {W : List Nat} {a : Atom} {p k : Nat} : atAt R (W.drop p) a k = atAt R W a (p + k) := by
  unfold atAt
  rw [List.drop_drop]
theorem tOk_shift {R : Rules} {W : List Nat} {a : Atom} {p : Nat} : ∀ n k, tOk R (W.drop p) a n k = tOk R W a n (p + k)
  | 0, _ => rfl
  | n + 1, k => by rw [tOk, tOk, at_shift, tOk_shift n, Nat.add_assoc]
theorem reach_shift {R : Rules} {W : List Nat} {p : Nat} {Z : Nat → Bool} : ∀ (l : List Item) (k : Nat), Reach R (W.drop p) (fun k => Z (p + k)) l k ↔ Reach R W Z l (p + k)
  | [], k => Iff.rfl
  | i :: l, k => by
    constructor
    · rintro ⟨n, h1, h2, h3, h4⟩
      rw [tOk_shift] at h3
      rw [reach_shift l] at h4
      exact ⟨n, h1, h2, h3, by rw [Nat.add_assoc]; exact h4⟩
    · rintro ⟨n, h1, h2, h3, h4⟩
      rw [Nat.add_assoc] at h4
      exact ⟨n, h1, h2, by rw [tOk_shift]; exact h3, by rw [reach_shift l]; exact h4⟩
theorem tOk_le {R : Rules} {W : List Nat} {a : Atom} : ∀ n k, k ≤ W.length → tOk R W a n k = true → k + n * a.size ≤ W.length
  | 0, k, h, _ => by rw [Nat.zero_mul]; exact h
  | n + 1, k, h, e => by
    rw [tOk, Bool.and_eq_true] at e
    have h2 : k + a.size ≤ W.length := by
      have e1 := e.1
      unfold atAt at e1
      obtain ⟨r, hr⟩ := Option.isSome_iff_exists.mp e1
      have := (rest_drop hr).1
      rw [List.length_drop] at this
      omega
    have := tOk_le n (k + a.size) h2 e.2
    rw [Nat.succ_mul]; omega
theorem tOk_snoc {R : Rules} {W : List Nat} {a : Atom} : ∀ n k, tOk R W a (n + 1) k = (tOk R W a n k && atAt R W a (k + n * a.size))
  | 0, k => by rw [tOk, tOk, tOk, Nat.zero_mul, Bool.and_true]; rfl
  | n + 1, k => by
    rw [tOk, tOk_snoc n, tOk, Bool.and_assoc, Nat.succ_mul]
    congr 3
    omega
/-! ### read from the end -/
theorem turned_size (i : Item) : i.turned.atom.size = i.atom.size := by
  obtain ⟨a, lo, hi⟩ := i
  cases a with
  | any => rfl
  | cls k => rfl
  | lit l => exact List.length_reverse
theorem turned_least (i : Item) : i.turned.least = i.least := by
  obtain ⟨a, lo, hi⟩ := i
  cases a <;> rfl
theorem turned_most (i : Item) : i.turned.most = i.most := by
  obtain ⟨a, lo, hi⟩ := i
  cases a <;> rfl
theorem rev_drop {W : List Nat} {p k : Nat} (hp : p ≤ W.length) (hk : k ≤ p) : (W.take p).reverse.drop k = (W.take (p - k)).reverse := by
  rw [List.drop_reverse, List.length_take, Nat.min_eq_left hp, List.take_take, Nat.min_eq_left (Nat.sub_le _ _)]
theorem take_last {W : List Nat} {m : Nat} (h : m < W.length) : (W.take (m + 1)).reverse = W[m] :: (W.take m).reverse := by
  rw [List.take_succ_eq_append_getElem h, List.reverse_append]; rfl
theorem at_turned {R : Rules} {W : List Nat} {p k : Nat} (i : Item) (hp : p ≤ W.length) (hk : k ≤ p) :
    atAt R (W.take p).reverse i.turned.atom k = true ↔ i.atom.size ≤ p - k ∧ atAt R W i.atom (p - k - i.atom.size) = true := by
  unfold atAt
  rw [rev_drop hp hk]
  generalize hm : p - k = m
  have hmW : m ≤ W.length := by omega
  obtain ⟨a, lo, hi⟩ := i
  cases a with
  | any =>
    show ((Atom.any).rest R (W.take m).reverse).isSome = true ↔ 1 ≤ m ∧ ((Atom.any).rest R (W.drop (m - 1))).isSome = true
    cases m with
    | zero => exact ⟨fun h => (nomatch h), fun h => absurd h.1 (by omega)⟩
    | succ m =>
      rw [take_last (by omega), List.drop_eq_getElem_cons (show m + 1 - 1 < W.length by omega)]
      exact ⟨fun _ => ⟨by omega, rfl⟩, fun _ => rfl⟩
  | cls c =>
    show ((Atom.cls c).rest R (W.take m).reverse).isSome = true ↔ 1 ≤ m ∧ ((Atom.cls c).rest R (W.drop (m - 1))).isSome = true
    cases m with
    | zero => exact ⟨fun h => (nomatch h), fun h => absurd h.1 (by omega)⟩
    | succ m =>
      rw [take_last (by omega), List.drop_eq_getElem_cons (show m + 1 - 1 < W.length by omega)]
      show (if R.inClass c W[m] = true then some (W.take m).reverse else none).isSome = true ↔ 1 ≤ m + 1 ∧ (if R.inClass c W[m] = true then some (W.drop (m + 1 - 1 + 1)) else none).isSome = true
      by_cases q : R.inClass c W[m] = true
      · rw [if_pos q, if_pos q]; exact ⟨fun _ => ⟨by omega, rfl⟩, fun _ => rfl⟩
      · rw [if_neg q, if_neg q]; exact ⟨fun h => (nomatch h), fun h => (nomatch h.2)⟩
  | lit l =>
    have e1 : ∀ t : List Nat, (Atom.lit l.reverse).rest R t = if l.reverse.isPrefixOf t = true then some (t.drop l.reverse.length) else none := fun t => by cases t <;> rfl
    have e2 : ∀ t : List Nat, (Atom.lit l).rest R t = if l.isPrefixOf t = true then some (t.drop l.length) else none := fun t => by cases t <;> rfl
    show ((Atom.lit l.reverse).rest R (W.take m).reverse).isSome = true ↔ l.length ≤ m ∧ ((Atom.lit l).rest R (W.drop (m - l.length))).isSome = true
    rw [e1, e2]
    have q : (l.reverse.isPrefixOf (W.take m).reverse = true) ↔ l.length ≤ m ∧ l.isPrefixOf (W.drop (m - l.length)) = true := by
      rw [List.isPrefixOf_iff_prefix, List.isPrefixOf_iff_prefix, List.reverse_prefix]
      constructor
      · intro h
        have hl := h.length_le
        rw [List.length_take, Nat.min_eq_left hmW] at hl
        refine ⟨hl, ?_⟩
        rw [List.suffix_iff_eq_drop, List.length_take, Nat.min_eq_left hmW, List.drop_take] at h
        rw [List.prefix_iff_eq_take]
        have : m - (m - l.length) = l.length := by omega
        rw [this] at h
        exact h
      · rintro ⟨hl, h⟩
        rw [List.prefix_iff_eq_take] at h
        rw [List.suffix_iff_eq_drop, List.length_take, Nat.min_eq_left hmW, List.drop_take]
        have : m - (m - l.length) = l.length := by omega
        rw [this]
        exact h
    by_cases c : l.reverse.isPrefixOf (W.take m).reverse = true
    · have c2 := q.mp c
      rw [if_pos c, if_pos c2.2]
      exact ⟨fun _ => ⟨c2.1, rfl⟩, fun _ => rfl⟩
    · rw [if_neg c]
      refine ⟨fun h => (nomatch h), fun h => ?_⟩
      by_cases c3 : l.isPrefixOf (W.drop (m - l.length)) = true
      · exact absurd (q.mpr ⟨h.1, c3⟩) c
      · have h2 := h.2
        rw [if_neg c3] at h2; cases h2
theorem tOk_turned {R : Rules} {W : List Nat} {p : Nat} (i : Item) (hp : p ≤ W.length) : ∀ n k, k ≤ p → (tOk R (W.take p).reverse i.turned.atom n k = true ↔ n * i.atom.size ≤ p - k ∧ tOk R W i.atom n (p - k - n * i.atom.size) = true)
  | 0, k, _ => by rw [Nat.zero_mul]; exact ⟨fun _ => ⟨Nat.zero_le _, rfl⟩, fun _ => rfl⟩
  | n + 1, k, hk => by
    have e : tOk R W i.atom (n + 1) (p - k - (n + 1) * i.atom.size) = (atAt R W i.atom (p - k - (n + 1) * i.atom.size) && tOk R W i.atom n (p - k - (n + 1) * i.atom.size + i.atom.size)) := rfl
    rw [tOk_snoc, e, Bool.and_eq_true, Bool.and_eq_true, tOk_turned i hp n k hk, turned_size]
    have hs : (n + 1) * i.atom.size = n * i.atom.size + i.atom.size := Nat.succ_mul _ _
    rw [hs]
    generalize n * i.atom.size = X
    constructor
    · rintro ⟨⟨h1, h2⟩, h3⟩
      rw [at_turned i hp (by omega)] at h3
      have e1 : p - k - (X + i.atom.size) = p - (k + X) - i.atom.size := by omega
      have e2 : p - k - (X + i.atom.size) + i.atom.size = p - k - X := by omega
      exact ⟨by omega, by rw [e1]; exact h3.2, by rw [e2]; exact h2⟩
    · rintro ⟨h1, h2, h3⟩
      have e1 : p - k - (X + i.atom.size) = p - (k + X) - i.atom.size := by omega
      have e2 : p - k - (X + i.atom.size) + i.atom.size = p - k - X := by omega
      rw [e1] at h2
      rw [e2] at h3
      exact ⟨⟨by omega, h3⟩, (at_turned i hp (by omega)).mpr ⟨by omega, h2⟩⟩
/-- ends at a place, the last item first -/
def EndsR (R : Rules) (W : List Nat) (Z : Nat → Bool) : List Item → Nat → Prop
  | [], i => Z i = true
  | it :: l, i => ∃ n, it.least ≤ n ∧ n ≤ it.most ∧ n * it.atom.size ≤ i ∧ tOk R W it.atom n (i - n * it.atom.size) = true ∧ EndsR R W Z l (i - n * it.atom.size)
theorem reach_turned {R : Rules} {W : List Nat} {p : Nat} {Z : Nat → Bool} (hp : p ≤ W.length) : ∀ (l : List Item) (k : Nat), k ≤ p → (Reach R (W.take p).reverse (fun k => Z (p - k)) (l.map Item.turned) k ↔ EndsR R W Z l (p - k))
  | [], k, _ => Iff.rfl
  | i :: l, k, hk => by
    show (∃ n, i.turned.least ≤ n ∧ n ≤ i.turned.most ∧ tOk R (W.take p).reverse i.turned.atom n k = true ∧ Reach R (W.take p).reverse (fun k => Z (p - k)) (l.map Item.turned) (k + n * i.turned.atom.size)) ↔ _
    rw [turned_least, turned_most, turned_size]
    constructor
    · rintro ⟨n, h1, h2, h3, h4⟩
      obtain ⟨h5, h6⟩ := (tOk_turned i hp n k hk).mp h3
      refine ⟨n, h1, h2, h5, h6, ?_⟩
      rw [reach_turned hp l _ (by omega)] at h4
      have e : p - k - n * i.atom.size = p - (k + n * i.atom.size) := by omega
      rw [e]; exact h4
    · rintro ⟨n, h1, h2, h3, h4, h5⟩
      refine ⟨n, h1, h2, (tOk_turned i hp n k hk).mpr ⟨h3, h4⟩, ?_⟩
      rw [reach_turned hp l _ (by omega)]
      have e : p - k - n * i.atom.size = p - (k + n * i.atom.size) := by omega
      rw [← e]; exact h5
/-! ### the program's places -/
def getB (P : List Bool) (i : Nat) : Bool := P[i]?.getD false
theorem getB_le {P : List Bool} {i : Nat} (h : P.length ≤ i) : getB P i = false := by unfold getB; rw [List.getElem?_eq_none h]; rfl
theorem getB_range {N i : Nat} {f : Nat → Bool} : getB ((List.range N).map f) i = (decide (i < N) && f i) := by
  unfold getB
  rw [List.getElem?_map]
  by_cases h : i < N
  · rw [List.getElem?_eq_getElem (by rw [List.length_range]; exact h), List.getElem_range, decide_eq_true h]; rfl
  · rw [List.getElem?_eq_none (by rw [List.length_range]; omega), decide_eq_false h]; rfl
def standB (R : Rules) (W : List Nat) (a : Atom) : List Bool := (List.range W.length).map fun i => atAt R W a i
def onM (S : List Bool) (w : Nat) (P : List Bool) : List Bool := (List.range P.length).map fun i => decide (w ≤ i) && (getB P (i - w) && getB S (i - w))
def backM (S : List Bool) (w : Nat) (P : List Bool) : List Bool := (List.range P.length).map fun i => getB S i && getB P (i + w)
def iterM (mv : List Bool → List Bool) : Nat → List Bool → List Bool
  | 0, P => P
  | n + 1, P => mv (iterM mv n P)
theorem on_len {S P : List Bool} {w : Nat} : (onM S w P).length = P.length := by unfold onM; rw [List.length_map, List.length_range]
theorem back_len {S P : List Bool} {w : Nat} : (backM S w P).length = P.length := by unfold backM; rw [List.length_map, List.length_range]
theorem iter_len {mv : List Bool → List Bool} (h : ∀ P, (mv P).length = P.length) : ∀ n P, (iterM mv n P).length = P.length
  | 0, _ => rfl
  | n + 1, P => by rw [iterM, h, iter_len h n]
theorem back_it {R : Rules} {W : List Nat} {a : Atom} {P : List Bool} (hP : P.length = W.length + 1) (ha : 0 < a.size) : ∀ n i, getB (iterM (backM (standB R W a) a.size) n P) i = (tOk R W a n i && getB P (i + n * a.size))
  | 0, i => by rw [iterM, tOk, Nat.zero_mul]; rfl
  | n + 1, i => by
    have hl : (iterM (backM (standB R W a) a.size) n P).length = P.length := iter_len (fun _ => back_len) n P
    have e : getB (iterM (backM (standB R W a) a.size) (n + 1) P) i = (decide (i < P.length) && (getB (standB R W a) i && getB (iterM (backM (standB R W a) a.size) n P) (i + a.size))) := by
      show getB (backM (standB R W a) a.size (iterM (backM (standB R W a) a.size) n P)) i = _
      rw [← hl]
      exact getB_range
    rw [e, back_it hP ha n]
    have es : getB (standB R W a) i = (decide (i < W.length) && atAt R W a i) := by unfold standB; rw [getB_range]
    rw [es, tOk]
    have e2 : i + a.size + n * a.size = i + (n + 1) * a.size := by rw [Nat.succ_mul]; omega
    rw [e2]
    by_cases h : i < W.length
    · rw [decide_eq_true h, decide_eq_true (show i < P.length by omega), Bool.true_and, Bool.true_and, Bool.and_assoc]
    · rw [decide_eq_false h, Bool.false_and, Bool.false_and, Bool.and_false]
      rw [getB_le (P := P) (by rw [hP, Nat.succ_mul]; omega), Bool.and_false]
theorem on_it {R : Rules} {W : List Nat} {a : Atom} {P : List Bool} (hP : P.length = W.length + 1) (ha : 0 < a.size) : ∀ n i, getB (iterM (onM (standB R W a) a.size) n P) i = (decide (n * a.size ≤ i) && (getB P (i - n * a.size) && tOk R W a n (i - n * a.size)))
  | 0, i => by rw [iterM, tOk, Nat.zero_mul]; simp
  | n + 1, i => by
    have hl : (iterM (onM (standB R W a) a.size) n P).length = P.length := iter_len (fun _ => on_len) n P
    have e : getB (iterM (onM (standB R W a) a.size) (n + 1) P) i = (decide (i < P.length) && (decide (a.size ≤ i) && (getB (iterM (onM (standB R W a) a.size) n P) (i - a.size) && getB (standB R W a) (i - a.size)))) := by
      show getB (onM (standB R W a) a.size (iterM (onM (standB R W a) a.size) n P)) i = _
      rw [← hl]
      exact getB_range
    rw [e, on_it hP ha n]
    have es : ∀ i, getB (standB R W a) i = (decide (i < W.length) && atAt R W a i) := fun i => by unfold standB; rw [getB_range]
    rw [es, tOk_snoc, Nat.succ_mul]
    generalize hX : n * a.size = X
    by_cases h1 : X + a.size ≤ i
    · have e2 : i - a.size - X = i - (X + a.size) := by omega
      have e3 : i - (X + a.size) + X = i - a.size := by omega
      rw [decide_eq_true h1, decide_eq_true (show a.size ≤ i by omega), decide_eq_true (show X ≤ i - a.size by omega), e2, e3]
      by_cases h2 : i < P.length
      · rw [decide_eq_true h2, decide_eq_true (show i - a.size < W.length by omega)]
        simp only [Bool.true_and, Bool.and_assoc]
      · have h3 : atAt R W a (i - a.size) = false := by
          cases q : atAt R W a (i - a.size) with
          | false => rfl
          | true =>
            unfold atAt at q
            obtain ⟨r, hr⟩ := Option.isSome_iff_exists.mp q
            have := (rest_drop hr).1
            rw [List.length_drop] at this
            omega
        rw [decide_eq_false h2, h3]
        simp only [Bool.false_and, Bool.and_false]
    · rw [decide_eq_false h1]
      by_cases h2 : a.size ≤ i
      · rw [decide_eq_false (show ¬ X ≤ i - a.size by omega)]
        simp only [Bool.false_and, Bool.and_false]
      · rw [decide_eq_false h2]
        simp only [Bool.false_and, Bool.and_false]
def zipOr (P Q : List Bool) : List Bool := List.zipWith (fun a b => a || b) P Q
def foundM (mv : List Bool → List Bool) (least : Nat) (P : List Bool) : Nat → List Bool
  | 0 => List.replicate P.length false
  | n + 1 => if least ≤ n then zipOr (foundM mv least P n) (iterM mv n P) else foundM mv least P n
theorem zipOr_len {P Q : List Bool} (h : P.length = Q.length) : (zipOr P Q).length = P.length := by unfold zipOr; rw [List.length_zipWith, h, Nat.min_self]
theorem found_len {mv : List Bool → List Bool} (h : ∀ P, (mv P).length = P.length) {least : Nat} {P : List Bool} : ∀ n, (foundM mv least P n).length = P.length
  | 0 => List.length_replicate
  | n + 1 => by
    rw [foundM]
    by_cases c : least ≤ n
    · rw [if_pos c, zipOr_len (by rw [found_len h n, iter_len h]), found_len h n]
    · rw [if_neg c, found_len h n]
theorem getB_or {P Q : List Bool} (h : P.length = Q.length) (i : Nat) : getB (zipOr P Q) i = (getB P i || getB Q i) := by
  unfold getB zipOr
  rw [List.getElem?_zipWith]
  by_cases c : i < P.length
  · rw [List.getElem?_eq_getElem c, List.getElem?_eq_getElem (h ▸ c)]; rfl
  · rw [List.getElem?_eq_none (by omega), List.getElem?_eq_none (by omega)]; rfl
theorem found_get {mv : List Bool → List Bool} (h : ∀ P, (mv P).length = P.length) {least : Nat} {P : List Bool} {i : Nat} : ∀ n, (getB (foundM mv least P n) i = true ↔ ∃ t, t < n ∧ least ≤ t ∧ getB (iterM mv t P) i = true)
  | 0 => by
    constructor
    · intro q
      unfold foundM getB at q
      rw [List.getElem?_replicate] at q
      by_cases c : i < P.length
      · rw [if_pos c] at q; cases q
      · rw [if_neg c] at q; cases q
    · rintro ⟨t, ht, _⟩; omega
  | n + 1 => by
    rw [foundM]
    by_cases c : least ≤ n
    · rw [if_pos c, getB_or (by rw [found_len h, iter_len h]), Bool.or_eq_true, found_get h n]
      constructor
      · rintro (⟨t, h1, h2, h3⟩ | q)
        · exact ⟨t, by omega, h2, h3⟩
        · exact ⟨n, by omega, c, q⟩
      · rintro ⟨t, h1, h2, h3⟩
        by_cases e : t = n
        · subst e; exact Or.inr h3
        · exact Or.inl ⟨t, by omega, h2, h3⟩
    · rw [if_neg c, found_get h n]
      constructor
      · rintro ⟨t, h1, h2, h3⟩
        exact ⟨t, by omega, h2, h3⟩
      · rintro ⟨t, h1, h2, h3⟩
        exact ⟨t, by omega, h2, h3⟩
def pastM (R : Rules) (W : List Nat) (it : Item) (P : List Bool) (back : Bool) : List Bool :=
  foundM (if back = true then backM (standB R W it.atom) it.atom.size else onM (standB R W it.atom) it.atom.size) it.least P (it.most + 1)
theorem past_len {R : Rules} {W : List Nat} {it : Item} {P : List Bool} {back : Bool} : (pastM R W it P back).length = P.length := by
  unfold pastM
  cases back
  · exact found_len (fun _ => on_len) _
  · exact found_len (fun _ => back_len) _
theorem past_back {R : Rules} {W : List Nat} {it : Item} {P : List Bool} (hP : P.length = W.length + 1) (ha : 0 < it.atom.size) (i : Nat) :
    getB (pastM R W it P true) i = true ↔ ∃ n, it.least ≤ n ∧ n ≤ it.most ∧ tOk R W it.atom n i = true ∧ getB P (i + n * it.atom.size) = true := by
  unfold pastM
  rw [if_pos rfl, found_get (fun _ => back_len)]
  constructor
  · rintro ⟨t, h1, h2, h3⟩
    rw [back_it hP ha, Bool.and_eq_true] at h3
    exact ⟨t, h2, by omega, h3.1, h3.2⟩
  · rintro ⟨n, h1, h2, h3, h4⟩
    exact ⟨n, by omega, h1, by rw [back_it hP ha, h3, h4]; rfl⟩
theorem past_on {R : Rules} {W : List Nat} {it : Item} {P : List Bool} (hP : P.length = W.length + 1) (ha : 0 < it.atom.size) (i : Nat) :
    getB (pastM R W it P false) i = true ↔ ∃ n, it.least ≤ n ∧ n ≤ it.most ∧ n * it.atom.size ≤ i ∧ tOk R W it.atom n (i - n * it.atom.size) = true ∧ getB P (i - n * it.atom.size) = true := by
  unfold pastM
  rw [if_neg Bool.false_ne_true, found_get (fun _ => on_len)]
  constructor
  · rintro ⟨t, h1, h2, h3⟩
    rw [on_it hP ha, Bool.and_eq_true, Bool.and_eq_true, decide_eq_true_eq] at h3
    exact ⟨t, h2, by omega, h3.1, h3.2.2, h3.2.1⟩
  · rintro ⟨n, h1, h2, h3, h4, h5⟩
    exact ⟨n, by omega, h1, by rw [on_it hP ha, decide_eq_true h3, h4, h5]; rfl⟩
/-- an item's atom stands for a character at least -/
def okI (it : Item) : Prop := 0 < it.atom.size
def startP (W : List Nat) (k : Nat) (no : Bool) : List Bool := (List.range (W.length + 1)).map fun i => decide (i = k) || no
theorem startP_len {W : List Nat} {k : Nat} {no : Bool} : (startP W k no).length = W.length + 1 := by unfold startP; rw [List.length_map, List.length_range]
def endsM (R : Rules) (W : List Nat) (r : Rule) : List Bool := r.before.foldl (fun P it => pastM R W it P false) (startP W 0 (!r.start))
def beginsM (R : Rules) (W : List Nat) (r : Rule) : List Bool := r.behind.foldr (fun it P => pastM R W it P true) (startP W W.length (!r.halt_))
theorem foldr_back {R : Rules} {W : List Nat} {P0 : List Bool} (hP : P0.length = W.length + 1) : ∀ (l : List Item), (∀ it ∈ l, okI it) →
    (l.foldr (fun it P => pastM R W it P true) P0).length = W.length + 1 ∧ ∀ i, (getB (l.foldr (fun it P => pastM R W it P true) P0) i = true ↔ Reach R W (fun k => getB P0 k) l i)
  | [], _ => ⟨hP, fun i => Iff.rfl⟩
  | it :: l, h => by
    have r := foldr_back (R := R) hP l (fun x hx => h x (List.mem_cons_of_mem _ hx))
    rw [List.foldr_cons]
    refine ⟨past_len.trans r.1, fun i => ?_⟩
    rw [past_back r.1 (h it List.mem_cons_self)]
    constructor
    · rintro ⟨n, h1, h2, h3, h4⟩
      exact ⟨n, h1, h2, h3, (r.2 _).mp h4⟩
    · rintro ⟨n, h1, h2, h3, h4⟩
      exact ⟨n, h1, h2, h3, (r.2 _).mpr h4⟩
theorem foldr_on {R : Rules} {W : List Nat} {P0 : List Bool} (hP : P0.length = W.length + 1) : ∀ (l : List Item), (∀ it ∈ l, okI it) →
    (l.foldr (fun it P => pastM R W it P false) P0).length = W.length + 1 ∧ ∀ i, (getB (l.foldr (fun it P => pastM R W it P false) P0) i = true ↔ EndsR R W (fun k => getB P0 k) l i)
  | [], _ => ⟨hP, fun i => Iff.rfl⟩
  | it :: l, h => by
    have r := foldr_on (R := R) hP l (fun x hx => h x (List.mem_cons_of_mem _ hx))
    rw [List.foldr_cons]
    refine ⟨past_len.trans r.1, fun i => ?_⟩
    rw [past_on r.1 (h it List.mem_cons_self)]
    constructor
    · rintro ⟨n, h1, h2, h3, h4, h5⟩
      exact ⟨n, h1, h2, h3, h4, (r.2 _).mp h5⟩
    · rintro ⟨n, h1, h2, h3, h4, h5⟩
      exact ⟨n, h1, h2, h3, h4, (r.2 _).mpr h5⟩
def okR (r : Rule) : Prop := (∀ it ∈ r.before, okI it) ∧ ∀ it ∈ r.behind, okI it
theorem ends_len {R : Rules} {W : List Nat} {r : Rule} (h : okR r) : (endsM R W r).length = W.length + 1 := by
  unfold endsM
  rw [List.foldl_eq_foldr_reverse]
  exact (foldr_on startP_len _ (fun x hx => h.1 x (List.mem_reverse.mp hx))).1
theorem begins_len {R : Rules} {W : List Nat} {r : Rule} (h : okR r) : (beginsM R W r).length = W.length + 1 := (foldr_back startP_len _ h.2).1
theorem good_one (W : List Nat) : Good W [(0, W)] := fun z hz => by
  rw [List.mem_singleton] at hz
  subst hz
  exact ⟨Nat.zero_le _, rfl⟩
theorem has_one {W : List Nat} {k : Nat} : Has [(0, W)] k ↔ k = 0 := ⟨fun ⟨z, hz, e⟩ => by rw [List.mem_singleton] at hz; subst hz; exact e.symm, fun e => ⟨_, List.mem_singleton_self _, e.symm⟩⟩
theorem reach_congr {R : Rules} {W : List Nat} {Z Y : Nat → Bool} : ∀ (l : List Item) (k : Nat), k ≤ W.length → (∀ k, k ≤ W.length → Z k = Y k) → (Reach R W Z l k ↔ Reach R W Y l k)
  | [], k, hk, h => by show Z k = true ↔ Y k = true; rw [h k hk]
  | i :: l, k, hk, h => by
    constructor
    · rintro ⟨n, h1, h2, h3, h4⟩
      exact ⟨n, h1, h2, h3, (reach_congr l _ (tOk_le n k hk h3) h).mp h4⟩
    · rintro ⟨n, h1, h2, h3, h4⟩
      exact ⟨n, h1, h2, h3, (reach_congr l _ (tOk_le n k hk h3) h).mpr h4⟩
/-- **the program's places tell where a rule fits** -/
theorem fits_eq {R : Rules} {W : List Nat} {r : Rule} (h : okR r) {p : Nat} (hp : p ≤ W.length) : fitsHere R r (W.take p).reverse (W.drop p) = (getB (endsM R W r) p && getB (beginsM R W r) p) := by
  have e1 : ((rests R (r.before.reverse.map Item.turned) [(0, (W.take p).reverse)]).any fun z => !r.start || z.2.isEmpty) = getB (endsM R W r) p := by
    rw [Bool.eq_iff_iff, rests_any _ _ (good_one _)]
    unfold endsM
    rw [List.foldl_eq_foldr_reverse, (foldr_on startP_len _ (fun x hx => h.1 x (List.mem_reverse.mp hx))).2]
    have hl : (W.take p).reverse.length = p := by rw [List.length_reverse, List.length_take, Nat.min_eq_left hp]
    have q := reach_turned (R := R) (Z := fun k => getB (startP W 0 (!r.start)) k) hp r.before.reverse 0 (Nat.zero_le _)
    rw [Nat.sub_zero] at q
    rw [← q]
    have cg := reach_congr (R := R) (W := (W.take p).reverse) (Z := fun k => !r.start || ((W.take p).reverse.drop k).isEmpty) (Y := fun k => getB (startP W 0 (!r.start)) (p - k)) (r.before.reverse.map Item.turned) 0 (Nat.zero_le _) (fun k hk => by
      rw [hl] at hk
      show (!r.start || ((W.take p).reverse.drop k).isEmpty) = _
      unfold startP
      rw [getB_range, decide_eq_true (show p - k < W.length + 1 by omega), Bool.true_and, Bool.or_comm]
      congr 1
      rw [Bool.eq_iff_iff, List.isEmpty_iff, decide_eq_true_eq, List.drop_eq_nil_iff, hl]
      omega)
    rw [← cg]
    constructor
    · rintro ⟨k, hk, hr⟩
      rw [has_one] at hk
      subst hk
      exact hr
    · intro hr
      exact ⟨0, has_one.mpr rfl, hr⟩
  have e2 : ((rests R r.behind [(0, W.drop p)]).any fun z => !r.halt_ || z.2.isEmpty) = getB (beginsM R W r) p := by
    rw [Bool.eq_iff_iff, rests_any _ _ (good_one _)]
    unfold beginsM
    rw [(foldr_back startP_len _ h.2).2]
    have q := reach_shift (R := R) (W := W) (p := p) (Z := fun k => getB (startP W W.length (!r.halt_)) k) r.behind 0
    rw [Nat.add_zero] at q
    rw [← q]
    have cg := reach_congr (R := R) (W := W.drop p) (Z := fun k => !r.halt_ || ((W.drop p).drop k).isEmpty) (Y := fun k => getB (startP W W.length (!r.halt_)) (p + k)) r.behind 0 (Nat.zero_le _) (fun k hk => by
      rw [List.length_drop] at hk
      show (!r.halt_ || ((W.drop p).drop k).isEmpty) = _
      unfold startP
      rw [getB_range, decide_eq_true (show p + k < W.length + 1 by omega), Bool.true_and, Bool.or_comm]
      congr 1
      rw [Bool.eq_iff_iff, List.isEmpty_iff, decide_eq_true_eq, List.drop_eq_nil_iff, List.length_drop]
      omega)
    rw [← cg]
    constructor
    · rintro ⟨k, hk, hr⟩
      rw [has_one] at hk
      subst hk
      exact hr
    · intro hr
      exact ⟨0, has_one.mpr rfl, hr⟩
  unfold fitsHere
  rw [e1, e2]
/-- which rule decides at a place; -1: none -/
def decI (R : Rules) (W : List Nat) (p : Nat) : Int := match R.rules.findIdx? fun r => fitsHere R r (W.take p).reverse (W.drop p) with
  | some i => (i : Int)
  | none => -1
end Sm
/-! ## What rules that were read keep -/
namespace Sm
open Fh
def okA (cls : List Nat) : Atom → Prop
  | .any => True
  | .cls k => k ∈ cls
  | .lit t => t ≠ []
def okIt (cls : List Nat) (it : Item) : Prop := it.most ≤ 32 ∧ okA cls it.atom
def okRl (cls : List Nat) (r : Rule) : Prop := (∀ it ∈ r.before, okIt cls it) ∧ ∀ it ∈ r.behind, okIt cls it
theorem cert_ne : ∀ (f n : Nat) (l : List Nat) (r : Bytes) (x : List Nat × Nat), certL f n l r = .ok x → x.1 ≠ []
  | 0, _, _, _, _, h => by cases h
  | f + 1, n, l, r, x, h => by
    rw [certL] at h
    by_cases c : l = [] ∨ headI r ≠ 34
    · rw [if_pos c] at h
      cases q : charHere r with
      | error k => rw [q] at h; cases h
      | ok y =>
        rw [q] at h
        dsimp only at h
        by_cases d : y.1 = 34
        · rw [if_pos d] at h; cases h
        · rw [if_neg d] at h
          exact cert_ne f _ _ _ _ h
    · rw [if_neg c] at h
      cases h
      intro z
      exact c (Or.inl (List.reverse_eq_nil_iff.mp z))
theorem atom_okA {cls : List Nat} {b : Bytes} {x : Atom × Nat} (h : atomM cls b = .ok x) : okA cls x.1 := by
  cases b with
  | nil => cases h
  | cons c r =>
    rw [atomM] at h
    by_cases c1 : c.toNat = 46
    · rw [if_pos c1] at h; cases h; exact trivial
    · rw [if_neg c1] at h
      by_cases c2 : c.toNat = 37 ∧ cls ≠ []
      · rw [if_pos c2] at h
        cases q : numM (own cls) r with
        | error k => rw [q] at h; cases h
        | ok y =>
          rw [q] at h
          cases h
          have := num_in (v := y.1) (k := y.2) q
          rw [inSp_own] at this
          exact List.contains_iff_mem.mp this
      · rw [if_neg c2] at h
        by_cases c3 : c.toNat = 34
        · rw [if_pos c3] at h
          cases q : certL (r.length + 1) 0 [] r with
          | error k => rw [q] at h; cases h
          | ok y =>
            rw [q] at h
            cases h
            exact cert_ne _ _ _ _ _ q
        · rw [if_neg c3] at h; cases h
theorem times_le {r : Bytes} {x : Nat × Nat × Nat} (h : timesM r = .ok x) : x.2.1 ≤ 32 := by
  unfold timesM at h
  by_cases c : headI r ≠ 42
  · rw [if_pos c] at h; cases h; exact (by decide : 1 ≤ 32)
  · rw [if_neg c] at h
    cases q : numM [(0, 32)] (r.drop 1) with
    | error k => rw [q] at h; cases h
    | ok y =>
      rw [q] at h
      dsimp only at h
      by_cases d : headI (r.drop (1 + y.2)) ≠ 45
      · rw [if_pos d] at h; cases h
      · rw [if_neg d] at h
        cases q2 : numM [(if y.1 = 1 then 2 else y.1, 32)] (r.drop (y.2 + 2)) with
        | error k => rw [q2] at h; cases h
        | ok z =>
          rw [q2] at h
          cases h
          have := num_in (v := z.1) (k := z.2) q2
          rw [inSp_one] at this
          exact (within_le this).2
theorem item_okI {cls : List Nat} {b : Bytes} {x : Item × Nat} (h : itemM cls b = .ok x) : okIt cls x.1 := by
  unfold itemM at h
  cases q : atomM cls b with
  | error k => rw [q] at h; cases h
  | ok y =>
    rw [q] at h
    dsimp only at h
    cases q2 : timesM (b.drop y.2) with
    | error k => rw [q2] at h; cases h
    | ok z =>
      rw [q2] at h
      cases h
      exact ⟨times_le q2, atom_okA q⟩
theorem before_ok {cls : List Nat} {b : Bytes} : ∀ (F n : Nat) (l : List Item) (x : List Item × Nat), (∀ it ∈ l, okIt cls it) → beforeL cls b F n l = .ok x → ∀ it ∈ x.1, okIt cls it
  | 0, _, _, _, _, h => by cases h
  | F + 1, n, l, x, h0, h => by
    rw [beforeL] at h
    by_cases c : hd b n = 124
    · rw [if_pos c] at h
      cases h
      exact fun it hi => h0 it (List.mem_reverse.mp hi)
    · rw [if_neg c] at h
      cases q : itemM cls (b.drop n) with
      | error k => rw [q] at h; cases h
      | ok y =>
        rw [q] at h
        dsimp only at h
        by_cases d : hd b (n + y.2) = 32
        · rw [if_pos d] at h
          refine before_ok F _ _ x (fun it hi => ?_) h
          rcases List.mem_cons.mp hi with rfl | hi
          · exact item_okI q
          · exact h0 it hi
        · rw [if_neg d] at h; cases h
theorem behind_ok {cls : List Nat} {b : Bytes} : ∀ (F n : Nat) (l : List Item) (x : (List Item × Bool) × Nat), (∀ it ∈ l, okIt cls it) → behindL cls b F n l = .ok x → ∀ it ∈ x.1.1, okIt cls it
  | 0, _, _, _, _, h => by cases h
  | F + 1, n, l, x, h0, h => by
    rw [behindL] at h
    by_cases c : hd b n = 32
    · rw [if_pos c] at h
      by_cases d : hd b (n + 1) = 36
      · rw [if_pos d] at h
        cases h
        exact fun it hi => h0 it (List.mem_reverse.mp hi)
      · rw [if_neg d] at h
        cases q : itemM cls (b.drop (n + 1)) with
        | error k => rw [q] at h; cases h
        | ok y =>
          rw [q] at h
          refine behind_ok F _ _ x (fun it hi => ?_) h
          rcases List.mem_cons.mp hi with rfl | hi
          · exact item_okI q
          · exact h0 it hi
    · rw [if_neg c] at h
      cases h
      exact fun it hi => h0 it (List.mem_reverse.mp hi)
theorem go_ok {cls : List Nat} {b : Bytes} {cut st : Bool} {z : Except Nat (List Item × Nat)} {x : Rule × Nat} (hz : ∀ y, z = .ok y → ∀ it ∈ y.1, okIt cls it) (h : ruleGo cls b cut st z = .ok x) : okRl cls x.1 := by
  cases z with
  | error k => cases h
  | ok y =>
    have h2 : ruleEnd b cut st y.1 (behindL cls b (b.length + 1) y.2 []) = .ok x := h
    cases q : behindL cls b (b.length + 1) y.2 [] with
    | error k => rw [q] at h2; cases h2
    | ok v =>
      rw [q] at h2
      have h3 : (if hd b v.2 = 10 then Except.ok ((⟨cut, st, y.1, v.1.1, v.1.2⟩ : Rule), v.2 + 1) else .error v.2) = .ok x := h2
      by_cases d : hd b v.2 = 10
      · rw [if_pos d] at h3
        cases h3
        exact ⟨hz y rfl, behind_ok _ _ _ _ (fun _ hi => absurd hi List.not_mem_nil) q⟩
      · rw [if_neg d] at h3; cases h3
theorem ruleM_ok {cls : List Nat} {b : Bytes} {n : Nat} {x : Rule × Nat} (h : ruleM cls b n = .ok x) : okRl cls x.1 := by
  unfold ruleM at h
  have nn : ∀ m y, beforeL cls b (b.length + 1) m [] = .ok y → ∀ it ∈ y.1, okIt cls it := fun m y hy => before_ok _ _ _ _ (fun _ hi => absurd hi List.not_mem_nil) hy
  generalize (if hd b n = 43 then (43 : Int) else 45) = s at h
  by_cases c1 : hd b n ≠ s
  · rw [if_pos c1] at h; cases h
  · rw [if_neg c1] at h
    by_cases c2 : hd b (n + 1) ≠ 32
    · rw [if_pos c2] at h; cases h
    · rw [if_neg c2] at h
      by_cases c3 : hd b (n + 2) = 94
      · rw [if_pos c3] at h
        by_cases c4 : hd b (n + 3) ≠ 32
        · rw [if_pos c4] at h; cases h
        · rw [if_neg c4] at h
          exact go_ok (fun y hy => nn _ y hy) h
      · rw [if_neg c3] at h
        exact go_ok (fun y hy => nn _ y hy) h
theorem rulesL_ok {cls : List Nat} {b : Bytes} : ∀ (F n : Nat) (l : List Rule) (x : List Rule), (∀ r ∈ l, okRl cls r) → rulesL cls b F n l = .ok x → ∀ r ∈ x, okRl cls r
  | 0, _, _, _, _, h => by cases h
  | F + 1, n, l, x, h0, h => by
    rw [rulesL] at h
    by_cases c : n < b.length
    · rw [if_pos c] at h
      cases q : ruleM cls b n with
      | error k => rw [q] at h; cases h
      | ok y =>
        rw [q] at h
        refine rulesL_ok F _ _ x (fun r hr => ?_) h
        rcases List.mem_cons.mp hr with rfl | hr
        · exact ruleM_ok q
        · exact h0 r hr
    · rw [if_neg c] at h
      cases h
      exact fun r hr => h0 r (List.mem_reverse.mp hr)
def WF (R : Rules) : Prop := ∀ r ∈ R.rules, okRl (R.classes.map fun c => c.1) r
theorem whole_wf {b : Bytes} {R : Rules} (h : wholeM b = .ok R) : WF R := by
  unfold wholeM at h
  cases q : classesL b (b.length + 1) 0 [] with
  | error k => rw [q] at h; cases h
  | ok x =>
    rw [q] at h
    dsimp only at h
    cases q2 : rulesL (x.1.map fun c => c.1) b (b.length + 1) x.2 [] with
    | error k => rw [q2] at h; cases h
    | ok rs =>
      rw [q2] at h
      cases h
      exact rulesL_ok _ _ _ _ (fun _ hi => absurd hi List.not_mem_nil) q2
theorem okA_size {cls : List Nat} {a : Atom} (h : okA cls a) : 0 < a.size := by
  cases a with
  | any => exact Nat.one_pos
  | cls k => exact Nat.one_pos
  | lit t => exact List.length_pos_iff.mpr h
theorem okRl_okR {cls : List Nat} {r : Rule} (h : okRl cls r) : okR r := ⟨fun it hi => okA_size (h.1 it hi).2, fun it hi => okA_size (h.2 it hi).2⟩
/-! what stands at a place, told as the program does -/
theorem stand_any {R : Rules} {W : List Nat} : standB R W .any = W.map fun _ => true := by
  unfold standB
  apply List.ext_getElem
  · rw [List.length_map, List.length_map, List.length_range]
  · intro i h1 h2
    rw [List.getElem_map, List.getElem_map, List.getElem_range]
    unfold atAt
    rw [List.length_map] at h2
    rw [List.drop_eq_getElem_cons h2]; rfl
theorem stand_cls {R : Rules} {W : List Nat} {k : Nat} : standB R W (.cls k) = W.map fun c => R.inClass k c := by
  unfold standB
  apply List.ext_getElem
  · rw [List.length_map, List.length_map, List.length_range]
  · intro i h1 h2
    rw [List.getElem_map, List.getElem_map, List.getElem_range]
    unfold atAt
    rw [List.length_map] at h2
    rw [List.drop_eq_getElem_cons h2]
    show (if R.inClass k W[i] = true then some (W.drop (i + 1)) else none).isSome = _
    cases R.inClass k W[i] <;> rfl
theorem stand_lit {R : Rules} {W t : List Nat} : standB R W (.lit t) = (List.range W.length).map fun i => decide ((W.drop i).take t.length = t) := by
  unfold standB
  refine List.map_congr_left fun i _ => ?_
  unfold atAt
  have e : ∀ w : List Nat, (Atom.lit t).rest R w = if t.isPrefixOf w = true then some (w.drop t.length) else none := fun w => by cases w <;> rfl
  rw [e]
  by_cases c : t.isPrefixOf (W.drop i) = true
  · rw [if_pos c, decide_eq_true (List.prefix_iff_eq_take.mp (List.isPrefixOf_iff_prefix.mp c)).symm]; rfl
  · rw [if_neg c, decide_eq_false (fun z => c (List.isPrefixOf_iff_prefix.mpr (List.prefix_iff_eq_take.mpr z.symm)))]; rfl
theorem inClass_nd {R : Rules} (hn : (R.classes.map fun c => c.1).Nodup) {k : Nat} {rs : Rngs} (h : R.classes.lookup k = some rs) (c : Nat) : R.inClass k c = rs.any fun y => decide (y.1 ≤ c) && decide (c ≤ y.2) := by
  unfold Rules.inClass
  generalize R.classes = cs at hn h
  induction cs with
  | nil => cases h
  | cons x cs ih =>
    obtain ⟨a, r⟩ := x
    rw [List.map_cons, List.nodup_cons] at hn
    rw [List.any_cons]
    by_cases e : a = k
    · subst e
      have e2 : (a == a) = true := beq_self_eq_true a
      simp only [List.lookup, e2] at h
      cases h
      have no : (cs.any fun x => x.1 == a && x.2.any fun y => decide (y.1 ≤ c) && decide (c ≤ y.2)) = false := by
        rw [List.any_eq_false]
        intro x hx hh
        rw [Bool.and_eq_true, beq_iff_eq] at hh
        exact hn.1 (List.mem_map.mpr ⟨x, hx, hh.1⟩)
      rw [no, Bool.or_false]
      show (a == a && _) = _
      rw [e2, Bool.true_and]
    · have e2 : (k == a) = false := by rw [beq_eq_false_iff_ne]; exact fun z => e z.symm
      simp only [List.lookup, e2] at h
      have e3 : (a == k) = false := by rw [beq_eq_false_iff_ne]; exact e
      rw [ih hn.2 h]
      show ((a == k && _) || _) = _
      rw [e3, Bool.false_and, Bool.false_or]
theorem lookup_mem {k : Nat} {cs : Clss} (h : k ∈ cs.map fun c => c.1) : ∃ rs, cs.lookup k = some rs := by
  induction cs with
  | nil => cases h
  | cons x cs ih =>
    obtain ⟨a, r⟩ := x
    by_cases e : k = a
    · subst e
      have e2 : (k == k) = true := beq_self_eq_true k
      exact ⟨r, by simp only [List.lookup, e2]⟩
    · have e2 : (k == a) = false := by rw [beq_eq_false_iff_ne]; exact e
      rcases List.mem_cons.mp h with h | h
      · exact absurd h e
      · obtain ⟨rs, q⟩ := ih h
        exact ⟨rs, by simp only [List.lookup, e2]; exact q⟩
end Sm
/-! ## The rule that decides -/
namespace Sm
open Fh
def fitsW (R : Rules) (W : List Nat) (p : Nat) (r : Rule) : Bool := fitsHere R r (W.take p).reverse (W.drop p)
def decT (R : Rules) (l : List Rule) (W : List Nat) (p : Nat) : Int := match l.findIdx? (fitsW R W p) with
  | some i => (i : Int)
  | none => -1
theorem decT_all (R : Rules) (W : List Nat) (p : Nat) : decT R R.rules W p = decI R W p := rfl
theorem decT_ge (R : Rules) (l : List Rule) (W : List Nat) (p : Nat) : -1 ≤ decT R l W p := by
  unfold decT
  cases l.findIdx? (fitsW R W p) with
  | none => exact Int.le_refl _
  | some i => show (-1 : Int) ≤ (i : Int); omega
theorem decT_snoc (R : Rules) (l : List Rule) (r : Rule) (W : List Nat) (p : Nat) : decT R (l ++ [r]) W p = if decT R l W p < 0 ∧ fitsW R W p r = true then (l.length : Int) else decT R l W p := by
  unfold decT
  rw [List.findIdx?_append]
  cases l.findIdx? (fitsW R W p) with
  | some i =>
    rw [if_neg (fun z => by have := z.1; have h : (i : Int) < 0 := this; omega)]; rfl
  | none =>
    by_cases c : fitsW R W p r = true
    · rw [if_pos ⟨(by decide : (-1 : Int) < 0), c⟩]
      have e : [r].findIdx? (fitsW R W p) = some 0 := by rw [List.findIdx?_cons, if_pos c]
      rw [e]
      show ((0 + l.length : Nat) : Int) = _
      rw [Nat.zero_add]
    · rw [if_neg (fun z => c z.2)]
      have e : [r].findIdx? (fitsW R W p) = none := by rw [List.findIdx?_cons, if_neg c]; rfl
      rw [e]; rfl
end Sm
/-! ## Rows: tags, pieces -/
namespace Sm
open Fh
def digs : Nat → Nat → Nat → Bytes → Nat × Nat
  | 0, v, n, _ => (v, n)
  | t + 1, v, n, r => if 48 + (if v = 0 then 1 else 0) ≤ headI r ∧ headI r ≤ 57 then digs t (v * 10 + (headI r).toNat - 48) (n + 1) (r.drop 1) else digs t v n r
theorem digs_stay : ∀ (t v n : Nat) (r : Bytes), ¬ (48 + (if v = 0 then (1 : Int) else 0) ≤ headI r ∧ headI r ≤ 57) → digs t v n r = (v, n)
  | 0, _, _, _, _ => rfl
  | t + 1, v, n, r, h => by rw [digs, if_neg h]; exact digs_stay t v n r h
theorem digs_ge : ∀ (t v n : Nat) (r : Bytes), n ≤ (digs t v n r).2 ∧ (digs t v n r).2 ≤ n + r.length
  | 0, _, n, r => ⟨Nat.le_refl _, Nat.le_add_right _ _⟩
  | t + 1, v, n, r => by
    rw [digs]
    by_cases c : 48 + (if v = 0 then (1 : Int) else 0) ≤ headI r ∧ headI r ≤ 57
    · rw [if_pos c]
      have q := digs_ge t (v * 10 + (headI r).toNat - 48) (n + 1) (r.drop 1)
      cases r with
      | nil => exact absurd c.1 (by show ¬ (48 + (if v = 0 then (1 : Int) else 0) ≤ -1); by_cases h : v = 0 <;> simp [h])
      | cons a r =>
        rw [List.drop_one, List.tail_cons] at q
        rw [List.drop_one, List.tail_cons, List.length_cons]
        omega
    · rw [if_neg c]; exact digs_ge t v n r
def tagEnd (r : Bytes) (x : Nat × Nat) : Except Nat (Nat × Nat) := if x.1 = 0 ∨ headI (r.drop x.2) ≠ 125 then .error x.2 else .ok x
theorem digits_some (v0 : Nat) (d0 : Bytes) : ∀ (t n v : Nat) (r : Bytes), n + t = 3 → 1 ≤ n → 1 ≤ v → d0.drop n = r →
    tagEnd d0 (digs t v n r) = (match digitsHere n v r with | .ok x => .ok x | .error k => .error (n + k))
  | t, n, v, [], h1, h2, h3, hd => by
    rw [digs_stay t v n [] (by show ¬ (_ ≤ (-1 : Int) ∧ _); intro z; have := z.1; split at this <;> omega)]
    unfold tagEnd
    rw [if_pos (Or.inr (by show headI (d0.drop n) ≠ 125; rw [hd]; decide))]
    cases n with
    | zero => omega
    | succ n => rfl
  | t, n, v, c :: r, h1, h2, h3, hd => by
    have hv : v ≠ 0 := by omega
    have hn0 : n ≠ 0 := by omega
    have hr : d0.drop (n + 1) = r := by
      have := congrArg (List.drop 1) hd
      rw [List.drop_drop] at this
      exact this
    have eh : digitsHere n v (c :: r) = (if c = 125 then .ok (v, n) else if n < 3 ∧ isDigit c = true then (match digitsHere (n + 1) (10 * v + (c.toNat - 48)) r with | .ok x => .ok x | .error k => .error (k + 1)) else .error 0) := by
      rw [digitsHere, if_neg hn0]
      rfl
    rw [eh]
    have hh : headI (c :: r) = (c.toNat : Int) := rfl
    by_cases c1 : c = 125
    · subst c1
      rw [digs_stay t v n _ (by intro z; rw [hh] at z; exact absurd z.2 (by decide)), if_pos rfl]
      unfold tagEnd
      rw [if_neg (by intro z; rcases z with z | z; exact hv z; exact z (by show headI (d0.drop n) = 125; rw [hd]; rfl))]
    · rw [if_neg c1]
      have c1' : headI (c :: r) ≠ 125 := fun z => c1 (by
        rw [hh] at z
        exact (u8 125).mpr (by rw [show (125 : UInt8).toNat = 125 from rfl]; omega))
      by_cases c2 : isDigit c = true
      · have d := (digit_iff c).mp c2
        cases t with
        | zero =>
          rw [if_neg (by omega)]
          show tagEnd d0 (v, n) = _
          unfold tagEnd
          rw [if_pos (Or.inr (by show headI (d0.drop n) ≠ 125; rw [hd]; exact c1'))]; rfl
        | succ t =>
          rw [if_pos ⟨by omega, c2⟩, digs, if_pos (by rw [hh, if_neg hv]; omega)]
          have e1 : v * 10 + (headI (c :: r)).toNat - 48 = 10 * v + (c.toNat - 48) := by rw [hh, Int.toNat_natCast]; omega
          rw [e1]
          rw [show (c :: r).drop 1 = r from rfl, digits_some v0 d0 t (n + 1) _ r (by omega) (by omega) (by omega) hr]
          cases digitsHere (n + 1) (10 * v + (c.toNat - 48)) r with
          | ok x => rfl
          | error k => show Except.error _ = Except.error _; congr 1; omega
      · rw [if_neg (fun z => c2 z.2)]
        rw [digs_stay t v n _ (by intro z; rw [hh, if_neg hv] at z; exact c2 ((digit_iff c).mpr (by omega)))]
        unfold tagEnd
        rw [if_pos (Or.inr (by show headI (d0.drop n) ≠ 125; rw [hd]; exact c1'))]; rfl
theorem digits_eq (d : Bytes) : digitsHere 0 0 d = tagEnd d (digs 3 0 0 d) := by
  cases d with
  | nil => rfl
  | cons c r =>
    have hh : headI (c :: r) = (c.toNat : Int) := rfl
    rw [digitsHere, if_pos rfl]
    by_cases h : 49 ≤ c.toNat ∧ c.toNat ≤ 57
    · rw [if_pos h, digs, if_pos (by rw [hh, if_pos rfl]; omega)]
      have e1 : 0 * 10 + (headI (c :: r)).toNat - 48 = c.toNat - 48 := by rw [hh, Int.toNat_natCast]; omega
      rw [e1, show (c :: r).drop 1 = r from rfl, digits_some 0 (c :: r) 2 1 _ r rfl (Nat.le_refl _) (by omega) rfl]
      cases digitsHere 1 (c.toNat - 48) r with
      | ok x => rfl
      | error k => show Except.error _ = Except.error _; congr 1; omega
    · rw [if_neg h, digs_stay 3 0 0 _ (by rw [hh, if_pos rfl]; omega)]
      unfold tagEnd
      rw [if_pos (Or.inl rfl)]
/-- a tag from its sign on -/
def tagM : Bytes → Except Nat (Piece × Nat)
  | [] => .error 0
  | s :: d => if s.toNat = 43 ∨ s.toNat = 45 ∨ s.toNat = 46 then (match tagEnd d (digs 3 0 0 d) with
      | .ok x => .ok (tagOf s x.1, x.2 + 2)
      | .error k => .error (k + 1)) else .error 0
def pieceM : Bytes → Except Nat (Piece × Nat)
  | [] => .error 0
  | c :: r => if c.toNat = 123 then (if headI r = 123 then .ok (.char 123, 2) else match tagM r with
      | .ok x => .ok (x.1, x.2 + 1)
      | .error k => .error (k + 1))
    else match charHere (c :: r) with
      | .ok x => .ok (.char x.1, x.2)
      | .error k => .error k
theorem pieceM_eq (b : Bytes) : pieceHere b = pieceM b := by
  cases b with
  | nil => rfl
  | cons c r =>
    rw [pieceHere.eq_def, pieceM]
    dsimp only
    by_cases h : c = 123
    · rw [if_pos h, if_pos (show c.toNat = 123 from (u8 123).mp h)]
      cases r with
      | nil => rfl
      | cons s d =>
        dsimp only
        have hs : headI (s :: d) = (s.toNat : Int) := rfl
        by_cases h2 : s = 123
        · rw [if_pos h2, if_pos (by rw [hs, h2]; rfl)]
        · have h2' : ¬ headI (s :: d) = 123 := fun z => h2 ((u8 123).mpr (by rw [show (123 : UInt8).toNat = 123 from rfl]; rw [hs] at z; omega))
          rw [if_neg h2, if_neg h2', tagM]
          have hsig : (s = 43 ∨ s = 45 ∨ s = 46) ↔ (s.toNat = 43 ∨ s.toNat = 45 ∨ s.toNat = 46) := by rw [u8 43, u8 45, u8 46]; rfl
          by_cases h3 : s = 43 ∨ s = 45 ∨ s = 46
          · rw [if_pos h3, if_pos (hsig.mp h3), digits_eq]
            cases tagEnd d (digs 3 0 0 d) <;> rfl
          · rw [if_neg h3, if_neg (fun z => h3 (hsig.mpr z))]
    · rw [if_neg h, if_neg (show ¬ c.toNat = 123 from fun z => h ((u8 123).mpr z))]
      cases charHere (c :: r) <;> rfl
theorem tag_pos {r : Bytes} {x : Piece × Nat} (h : tagM r = .ok x) : 1 ≤ x.2 ∧ x.2 ≤ r.length := by
  cases r with
  | nil => cases h
  | cons s d =>
    rw [tagM] at h
    by_cases c : s.toNat = 43 ∨ s.toNat = 45 ∨ s.toNat = 46
    · rw [if_pos c] at h
      have g := digs_ge 3 0 0 d
      generalize digs 3 0 0 d = z at g h
      unfold tagEnd at h
      by_cases c2 : z.1 = 0 ∨ headI (d.drop z.2) ≠ 125
      · rw [if_pos c2] at h; cases h
      · rw [if_neg c2] at h
        cases h
        have hne : d.drop z.2 ≠ [] := fun e => c2 (Or.inr (by rw [e]; decide))
        have : z.2 < d.length := by
          rcases Nat.lt_or_ge z.2 d.length with q | q
          · exact q
          · exact absurd (List.drop_eq_nil_of_le q) hne
        show 1 ≤ z.2 + 2 ∧ z.2 + 2 ≤ d.length + 1
        omega
    · rw [if_neg c] at h; cases h
theorem piece_pos {r : Bytes} {x : Piece × Nat} (h : pieceHere r = .ok x) : 1 ≤ x.2 ∧ x.2 ≤ r.length := by
  rw [pieceM_eq] at h
  cases r with
  | nil => cases h
  | cons c r =>
    rw [pieceM] at h
    by_cases c1 : c.toNat = 123
    · rw [if_pos c1] at h
      by_cases c2 : headI r = 123
      · rw [if_pos c2] at h
        cases h
        cases r with
        | nil => cases c2
        | cons s d => show 1 ≤ 2 ∧ 2 ≤ d.length + 1 + 1; omega
      · rw [if_neg c2] at h
        cases q : tagM r with
        | error k => rw [q] at h; cases h
        | ok y =>
          rw [q] at h
          cases h
          have := tag_pos q
          show 1 ≤ y.2 + 1 ∧ y.2 + 1 ≤ r.length + 1
          omega
    · rw [if_neg c1] at h
      cases q : charHere (c :: r) with
      | error k => rw [q] at h; cases h
      | ok y =>
        rw [q] at h
        cases h
        exact charHere_pos (x := y) q
end Sm
/-! ## Halves as the program finds them -/
namespace Sm
open Fh
def wrongM (seen : List Piece) : Piece → Bool
  | .char _ => false
  | .open_ n => seen.contains (.open_ n) || (seen.contains (.alone n) || seen.contains (.close n))
  | .close n => seen.contains (.close n) || seen.contains (.alone n)
  | .alone n => seen.contains (.alone n) || (seen.contains (.open_ n) || seen.contains (.close n))
def seenM (seen : List Piece) (p : Piece) : List Piece := if p.isTag = true then seen ++ [p] else seen
def halvesP : List Piece → List Nat → List Nat → Row → Option (List Nat × List Nat)
  | _, l, s, [] => some (l, s.reverse)
  | seen, l, s, p :: r => if wrongM seen p = true then none else match p with
    | .open_ n => halvesP (seenM seen p) l (n :: s) r
    | .close n => (match s with
      | [] => halvesP (seenM seen p) (l ++ [n]) [] r
      | m :: t => if m = n then halvesP (seenM seen p) l t r else none)
    | _ => halvesP (seenM seen p) l s r
def wrongAny : List Piece → Row → Bool
  | _, [] => false
  | seen, p :: r => wrongM seen p || wrongAny (seenM seen p) r
theorem wrong_ite {α : Type} (w a : Bool) (x : Option α) : (if w = true then none else if a = true then none else x) = if (w || a) = true then none else x := by
  cases w <;> cases a <;> rfl
theorem halvesP_eq : ∀ (r : Row) (seen : List Piece) (l s : List Nat), halvesP seen l s r = if wrongAny seen r = true then none else halvesFrom s l r
  | [], _, _, _ => rfl
  | .char x :: r, seen, l, s => by
    have e : halvesP seen l s (.char x :: r) = if wrongM seen (.char x) = true then none else halvesP (seenM seen (.char x)) l s r := rfl
    rw [e, halvesP_eq r, wrong_ite]; rfl
  | .alone n :: r, seen, l, s => by
    have e : halvesP seen l s (.alone n :: r) = if wrongM seen (.alone n) = true then none else halvesP (seenM seen (.alone n)) l s r := rfl
    rw [e, halvesP_eq r, wrong_ite]; rfl
  | .open_ n :: r, seen, l, s => by
    have e : halvesP seen l s (.open_ n :: r) = if wrongM seen (.open_ n) = true then none else halvesP (seenM seen (.open_ n)) l (n :: s) r := rfl
    rw [e, halvesP_eq r, wrong_ite]; rfl
  | .close n :: r, seen, l, [] => by
    have e : halvesP seen l [] (.close n :: r) = if wrongM seen (.close n) = true then none else halvesP (seenM seen (.close n)) (l ++ [n]) [] r := rfl
    rw [e, halvesP_eq r, wrong_ite]; rfl
  | .close n :: r, seen, l, m :: t => by
    have e : halvesP seen l (m :: t) (.close n :: r) = if wrongM seen (.close n) = true then none else if m = n then halvesP (seenM seen (.close n)) l t r else none := rfl
    have e2 : halvesFrom (m :: t) l (.close n :: r) = if m = n then halvesFrom t l r else none := rfl
    have e3 : wrongAny seen (.close n :: r) = (wrongM seen (.close n) || wrongAny (seenM seen (.close n)) r) := rfl
    rw [e, e2, e3]
    by_cases c : m = n
    · rw [if_pos c, if_pos c, halvesP_eq r, wrong_ite]
    · rw [if_neg c, if_neg c]
      cases wrongM seen (.close n) <;> cases wrongAny (seenM seen (.close n)) r <;> rfl
structure Fine (seen : List Piece) (h1 : List Nat) (r : Row) : Prop where
  o : (opens r).Nodup
  c : (closes r).Nodup
  a : (alones r).Nodup
  os : ∀ n ∈ opens r, Piece.open_ n ∉ seen ∧ Piece.alone n ∉ seen
  cs : ∀ n ∈ closes r, Piece.close n ∉ seen ∧ Piece.alone n ∉ seen
  as : ∀ n ∈ alones r, Piece.alone n ∉ seen ∧ Piece.open_ n ∉ seen ∧ Piece.close n ∉ seen ∧ n ∉ opens r ∧ n ∉ closes r
  h : ∀ n ∈ h1, n ∉ opens r
structure StH (seen : List Piece) (l s : List Nat) : Prop where
  l1 : ∀ n ∈ l, Piece.close n ∈ seen
  c1 : ∀ n, Piece.close n ∈ seen → n ∈ l ∨ Piece.open_ n ∈ seen
  o1 : ∀ n, Piece.open_ n ∈ seen → n ∈ s ∨ Piece.close n ∈ seen
  s1 : ∀ n ∈ s, Piece.open_ n ∈ seen
theorem StH.open_ {seen : List Piece} {l s : List Nat} {n : Nat} (S : StH seen l s) : StH (seen ++ [.open_ n]) l (n :: s) :=
  ⟨fun m hm => by have := S.l1 m hm; grind, fun m hm => by have := S.c1 m; grind, fun m hm => by have := S.o1 m; grind, fun m hm => by have := S.s1 m; grind⟩
theorem StH.left {seen : List Piece} {l : List Nat} {n : Nat} (S : StH seen l []) : StH (seen ++ [.close n]) (l ++ [n]) [] :=
  ⟨fun m hm => by have := S.l1 m; grind, fun m hm => by have := S.c1 m; grind, fun m hm => by have := S.o1 m; grind, fun m hm => by have := S.s1 m; grind⟩
theorem StH.pop {seen : List Piece} {l t : List Nat} {n : Nat} (S : StH seen l (n :: t)) : StH (seen ++ [.close n]) l t :=
  ⟨fun m hm => by have := S.l1 m hm; grind, fun m hm => by have := S.c1 m; have := S.s1 n; grind, fun m hm => by have := S.o1 m; grind, fun m hm => by have := S.s1 m; grind⟩
theorem StH.alone {seen : List Piece} {l s : List Nat} {n : Nat} (S : StH seen l s) : StH (seen ++ [.alone n]) l s :=
  ⟨fun m hm => by have := S.l1 m hm; grind, fun m hm => by have := S.c1 m; grind, fun m hm => by have := S.o1 m; grind, fun m hm => by have := S.s1 m; grind⟩
theorem op_o (n : Nat) (r : Row) : opens (.open_ n :: r) = n :: opens r := rfl
theorem op_c (n : Nat) (r : Row) : opens (.close n :: r) = opens r := rfl
theorem op_a (n : Nat) (r : Row) : opens (.alone n :: r) = opens r := rfl
theorem op_x (n : Nat) (r : Row) : opens (.char n :: r) = opens r := rfl
theorem cl_o (n : Nat) (r : Row) : closes (.open_ n :: r) = closes r := rfl
theorem cl_c (n : Nat) (r : Row) : closes (.close n :: r) = n :: closes r := rfl
theorem cl_a (n : Nat) (r : Row) : closes (.alone n :: r) = closes r := rfl
theorem cl_x (n : Nat) (r : Row) : closes (.char n :: r) = closes r := rfl
theorem al_o (n : Nat) (r : Row) : alones (.open_ n :: r) = alones r := rfl
theorem al_c (n : Nat) (r : Row) : alones (.close n :: r) = alones r := rfl
theorem al_a (n : Nat) (r : Row) : alones (.alone n :: r) = n :: alones r := rfl
theorem al_x (n : Nat) (r : Row) : alones (.char n :: r) = alones r := rfl
theorem left_from : ∀ (r : Row) (seen : List Piece) (l s : List Nat) (h : List Nat × List Nat), halvesFrom s l r = some h → StH seen l s → (closes r).Nodup → (∀ n ∈ closes r, Piece.close n ∉ seen) →
    (∀ n ∈ l, n ∈ h.1) ∧ ∀ n ∈ h.1, n ∈ l ∨ (n ∈ closes r ∧ Piece.open_ n ∉ seen)
  | [], _, _, _, _, h, _, _, _ => by
    cases h
    exact ⟨fun _ h => h, fun _ h => Or.inl h⟩
  | .char x :: r, seen, l, s, h, e, S, h1, h2 => left_from r seen l s h e S h1 h2
  | .alone x :: r, seen, l, s, h, e, S, h1, h2 => by
    have q := left_from r seen l s h e S h1 h2
    exact q
  | .open_ n :: r, seen, l, s, h, e, S, h1, h2 => by
    rw [cl_o] at h1 h2
    have q := left_from r (seen ++ [.open_ n]) l (n :: s) h e S.open_ h1 (fun m hm => by have := h2 m hm; grind)
    refine ⟨q.1, fun m hm => ?_⟩
    have := q.2 m hm
    rw [cl_o]
    grind
  | .close n :: r, seen, l, [], h, e, S, h1, h2 => by
    rw [cl_c] at h1 h2
    have q := left_from r (seen ++ [.close n]) (l ++ [n]) [] h e S.left (by grind) (fun m hm => by have := h2 m; grind)
    refine ⟨fun m hm => q.1 m (by grind), fun m hm => ?_⟩
    have := q.2 m hm
    have := S.o1 m
    have := h2 m
    rw [cl_c]
    grind
  | .close n :: r, seen, l, k :: t, h, e, S, h1, h2 => by
    rw [cl_c] at h1 h2
    have e2 : (if k = n then halvesFrom t l r else none) = some h := e
    by_cases c : k = n
    · rw [if_pos c] at e2
      subst c
      have q := left_from r (seen ++ [.close k]) l t h e2 S.pop (by grind) (fun m hm => by have := h2 m; grind)
      refine ⟨q.1, fun m hm => ?_⟩
      have := q.2 m hm
      rw [cl_c]
      grind
    · rw [if_neg c] at e2; cases e2
theorem seen_o (seen : List Piece) (n : Nat) : seenM seen (.open_ n) = seen ++ [.open_ n] := rfl
theorem seen_c (seen : List Piece) (n : Nat) : seenM seen (.close n) = seen ++ [.close n] := rfl
theorem seen_a (seen : List Piece) (n : Nat) : seenM seen (.alone n) = seen ++ [.alone n] := rfl
theorem seen_x (seen : List Piece) (n : Nat) : seenM seen (.char n) = seen := rfl
theorem fine_char {seen : List Piece} {h : List Nat} {n : Nat} {r : Row} : Fine seen h (.char n :: r) ↔ Fine seen h r := ⟨fun f => ⟨f.o, f.c, f.a, f.os, f.cs, f.as, f.h⟩, fun f => ⟨f.o, f.c, f.a, f.os, f.cs, f.as, f.h⟩⟩
theorem fine_alone {seen : List Piece} {h : List Nat} {n : Nat} {r : Row} : Fine seen h (.alone n :: r) ↔ (Piece.alone n ∉ seen ∧ Piece.open_ n ∉ seen ∧ Piece.close n ∉ seen) ∧ Fine (seen ++ [.alone n]) h r := by
  constructor
  · intro f
    obtain ⟨o, c, a, os, cs, as, hh⟩ := f
    rw [op_a] at o os hh
    rw [cl_a] at c cs
    rw [al_a, op_a, cl_a] at as
    rw [al_a] at a
    have q := as n List.mem_cons_self
    refine ⟨⟨q.1, q.2.1, q.2.2.1⟩, o, c, by grind, fun m hm => ?_, fun m hm => ?_, fun m hm => ?_, hh⟩
    · have := os m hm; grind
    · have := cs m hm; grind
    · have := as m (by grind); grind
  · rintro ⟨q, o, c, a, os, cs, as, hh⟩
    refine ⟨o, c, ?_, fun m hm => ?_, fun m hm => ?_, fun m hm => ?_, hh⟩
    · rw [al_a]; have := as n; grind
    · have := os m hm; grind
    · have := cs m hm; grind
    · rw [al_a] at hm; rw [op_a, cl_a]; have := as m; have := os m; have := cs m; grind
theorem fine_close {seen : List Piece} {h : List Nat} {n : Nat} {r : Row} : Fine seen h (.close n :: r) ↔ (Piece.close n ∉ seen ∧ Piece.alone n ∉ seen) ∧ Fine (seen ++ [.close n]) h r := by
  constructor
  · intro f
    obtain ⟨o, c, a, os, cs, as, hh⟩ := f
    rw [op_c] at o os hh
    rw [cl_c] at c cs
    rw [al_c, op_c, cl_c] at as
    rw [al_c] at a
    have q := cs n List.mem_cons_self
    refine ⟨q, o, by grind, a, fun m hm => ?_, fun m hm => ?_, fun m hm => ?_, hh⟩
    · have := os m hm; grind
    · have := cs m (by grind); grind
    · have := as m hm; grind
  · rintro ⟨q, o, c, a, os, cs, as, hh⟩
    refine ⟨o, ?_, a, fun m hm => ?_, fun m hm => ?_, fun m hm => ?_, hh⟩
    · rw [cl_c]; have := cs n; grind
    · have := os m hm; grind
    · rw [cl_c] at hm; have := cs m; grind
    · rw [op_c, cl_c]; have := as m hm; grind
theorem fine_open {seen : List Piece} {h : List Nat} {n : Nat} {r : Row} : Fine seen h (.open_ n :: r) ↔ (Piece.open_ n ∉ seen ∧ Piece.alone n ∉ seen ∧ n ∉ h) ∧ Fine (seen ++ [.open_ n]) h r := by
  constructor
  · intro f
    obtain ⟨o, c, a, os, cs, as, hh⟩ := f
    rw [op_o] at o os hh
    rw [cl_o] at c cs
    rw [al_o, op_o, cl_o] at as
    rw [al_o] at a
    have q := os n List.mem_cons_self
    refine ⟨⟨q.1, q.2, fun z => hh n z List.mem_cons_self⟩, by grind, c, a, fun m hm => ?_, fun m hm => ?_, fun m hm => ?_, fun m hm => by have := hh m hm; grind⟩
    · have := os m (by grind); grind
    · have := cs m hm; grind
    · have := as m hm; grind
  · rintro ⟨q, o, c, a, os, cs, as, hh⟩
    refine ⟨?_, c, a, fun m hm => ?_, fun m hm => ?_, fun m hm => ?_, fun m hm => ?_⟩
    · rw [op_o]; have := os n; grind
    · rw [op_o] at hm; have := os m; grind
    · have := cs m hm; grind
    · rw [op_o, cl_o]; have := as m hm; grind
    · rw [op_o]; have := hh m hm; grind
theorem wrong_iff : ∀ (r : Row) (seen : List Piece) (l s : List Nat) (h : List Nat × List Nat), halvesFrom s l r = some h → StH seen l s → (wrongAny seen r = false ↔ Fine seen h.1 r)
  | [], seen, l, s, h, e, S => ⟨fun _ => ⟨.nil, .nil, .nil, fun _ h => absurd h List.not_mem_nil, fun _ h => absurd h List.not_mem_nil, fun _ h => absurd h List.not_mem_nil, fun _ _ => List.not_mem_nil⟩, fun _ => rfl⟩
  | .char x :: r, seen, l, s, h, e, S => by
    rw [fine_char, ← wrong_iff r seen l s h e S]
    rfl
  | .alone n :: r, seen, l, s, h, e, S => by
    have ih := wrong_iff r (seen ++ [Piece.alone n]) l s h e S.alone
    rw [fine_alone, ← ih]
    show (wrongM seen (.alone n) || wrongAny (seen ++ [.alone n]) r) = false ↔ _
    unfold wrongM
    grind
  | .close n :: r, seen, l, [], h, e, S => by
    have ih := wrong_iff r (seen ++ [Piece.close n]) (l ++ [n]) [] h e S.left
    rw [fine_close, ← ih]
    show (wrongM seen (.close n) || wrongAny (seen ++ [.close n]) r) = false ↔ _
    unfold wrongM
    grind
  | .close n :: r, seen, l, k :: t, h, e, S => by
    have e2 : (if k = n then halvesFrom t l r else none) = some h := e
    by_cases c : k = n
    · rw [if_pos c] at e2
      subst c
      have ih := wrong_iff r (seen ++ [Piece.close k]) l t h e2 S.pop
      rw [fine_close, ← ih]
      show (wrongM seen (.close k) || wrongAny (seen ++ [.close k]) r) = false ↔ _
      unfold wrongM
      grind
    · rw [if_neg c] at e2; cases e2
  | .open_ n :: r, seen, l, s, h, e, S => by
    have ih := wrong_iff r (seen ++ [.open_ n]) l (n :: s) h e S.open_
    have hn : Fine (seen ++ [.open_ n]) h.1 r → Piece.open_ n ∉ seen → (Piece.close n ∉ seen ↔ n ∉ h.1) := by
      intro f hno
      have q := left_from r (seen ++ [.open_ n]) l (n :: s) h e S.open_ f.c (fun m hm => (f.cs m hm).1)
      constructor
      · intro hc hm
        rcases q.2 n hm with q | q
        · exact hc (S.l1 n q)
        · exact q.2 (by grind)
      · intro hm hc
        rcases S.c1 n hc with q2 | q2
        · exact hm (q.1 n q2)
        · exact hno q2
    rw [fine_open, ← ih]
    rw [← ih] at hn
    show (wrongM seen (.open_ n) || wrongAny (seen ++ [.open_ n]) r) = false ↔ _
    unfold wrongM
    grind
/-- **the program's halves are the straight row's** -/
theorem halvesP_straight (r : Row) : halvesP [] [] [] r = if straight r = true then halves r else none := by
  rw [halvesP_eq]
  unfold straight halves
  cases e : halvesFrom [] [] r with
  | none => cases wrongAny [] r <;> rfl
  | some h =>
    have w := wrong_iff r [] [] [] h e ⟨fun _ h => absurd h List.not_mem_nil, fun _ h => absurd h List.not_mem_nil, fun _ h => absurd h List.not_mem_nil, fun _ h => absurd h List.not_mem_nil⟩
    have f : Fine [] h.1 r ↔ (decide (opens r).Nodup && (decide (closes r).Nodup && (decide (alones r).Nodup && ((alones r).all (fun n => !(opens r).contains n && !(closes r).contains n) && h.1.all fun n => !(opens r).contains n)))) = true := by
      simp only [Bool.and_eq_true, decide_eq_true_eq, List.all_eq_true, Bool.not_eq_true']
      constructor
      · intro f
        exact ⟨f.o, f.c, f.a, fun n hn => by have := f.as n hn; grind, fun n hn => by have := f.h n hn; grind⟩
      · rintro ⟨o, c, a, as, hh⟩
        exact ⟨o, c, a, fun _ _ => ⟨List.not_mem_nil, List.not_mem_nil⟩, fun _ _ => ⟨List.not_mem_nil, List.not_mem_nil⟩, fun n hn => by have := as n hn; grind, fun n hn => by have := hh n hn; grind⟩
    rw [f] at w
    dsimp only
    cases q : wrongAny [] r with
    | false => rw [if_neg (by decide), if_pos (w.mp q)]
    | true => rw [if_pos rfl, if_neg (fun z => by have := w.mpr z; rw [q] at this; cases this)]
theorem paired_eq (r : Row) : paired r = decide (halvesP [] [] [] r = some ([], [])) := by
  rw [halvesP_straight]
  unfold paired
  cases straight r with
  | false => rfl
  | true =>
    rw [if_pos rfl, Bool.true_and]
    cases halves r with
    | none => rfl
    | some h =>
      by_cases c : h = ([], [])
      · subst c; rfl
      · rw [decide_eq_false (fun z => c (Option.some.inj z))]
        rw [beq_eq_false_iff_ne]
        exact fun z => c (Option.some.inj z)
end Sm
/-! ## What was handed over with a paragraph -/
namespace Sm
open Fh FhSegs
def paraM (t r : Bytes) : Except Int (Rules × Row) := if RULETEXT < t.length ∨ ROWTEXT < r.length then .error (-6) else match rulesGiven t with
  | .error e => .error e
  | .ok R => match paraGiven r with
    | .error e => .error e
    | .ok x => .ok (R, x)
theorem ofPara_eq (t r : Bytes) (f : Rules → Row → Answer) : ofPara t r f = match paraM t r with | .error e => says e | .ok y => f y.1 y.2 := by
  unfold ofPara paraM
  by_cases c : RULETEXT < t.length ∨ ROWTEXT < r.length
  · rw [if_pos c, if_pos c]
  · rw [if_neg c, if_neg c]
    cases rulesGiven t with
    | error e => rfl
    | ok R =>
      dsimp only
      cases paraGiven r <;> rfl
theorem rulesGiven_eq (t : Bytes) : rulesGiven t = match wholeM t with
    | .error _ => .error (-5)
    | .ok R => if beyondM R = true then .error (-6) else .ok R := by
  unfold rulesGiven
  rw [← wholeM_eq]
  cases wholeM t with
  | error k => rfl
  | ok R =>
    dsimp only
    rw [small_eq]
    cases beyondM R <;> rfl
theorem beyond_item {l : List Item} (h : beyondI l = false) : ∀ it ∈ l, it.atom.size ≤ 32 := by
  intro it hi
  unfold beyondI at h
  rw [Bool.or_eq_false_iff] at h
  have q := List.any_eq_false.mp h.2 it hi
  cases e : it.atom with
  | any => show 1 ≤ 32; decide
  | cls k => show 1 ≤ 32; decide
  | lit t =>
    rw [e] at q
    have : ¬ 32 < t.length := fun z => q (decide_eq_true z)
    show t.length ≤ 32
    omega
theorem beyond_rule {R : Rules} (h : beyondM R = false) : R.rules.length ≤ 256 ∧ ∀ r ∈ R.rules, (∀ it ∈ r.before, it.atom.size ≤ 32) ∧ ∀ it ∈ r.behind, it.atom.size ≤ 32 := by
  unfold beyondM at h
  rw [Bool.or_eq_false_iff, Bool.or_eq_false_iff] at h
  refine ⟨by have := of_decide_eq_false h.1; omega, fun r hr => ?_⟩
  have q := List.any_eq_false.mp h.2.2 r hr
  have q2 : (beyondI r.before || beyondI r.behind) = false := Bool.eq_false_iff.mpr q
  rw [Bool.or_eq_false_iff] at q2
  exact ⟨beyond_item q2.1, beyond_item q2.2⟩
theorem given_neg {t : Bytes} {e : Int} (h : rulesGiven t = .error e) : e < 0 := by
  rw [rulesGiven_eq] at h
  generalize wholeM t = X at h
  cases X with
  | error k => cases h; decide
  | ok R =>
    have h2 : (if beyondM R = true then Except.error (-6) else .ok R) = .error e := h
    by_cases c : beyondM R = true
    · rw [if_pos c] at h2; cases h2; decide
    · rw [if_neg c] at h2; cases h2
end Sm
/-! ## Where a row is cut -/
namespace Sm
open Fh
def isOpenAt (row : Row) (i : Nat) : Bool := match row[i]? with
  | some (.open_ _) => true
  | _ => false
def cutPl (row : Row) : Nat → Nat → Nat
  | a, 0 => a
  | a, n + 1 => if isOpenAt row a = true then a else cutPl row (a + 1) n
def spotsFrom : Nat → Row → List Nat
  | _, [] => []
  | k, .char _ :: r => k :: spotsFrom (k + 1) r
  | k, _ :: r => spotsFrom (k + 1) r
def pairsC (R : Rules) (cs : List Nat) (row : Row) : Nat → List Nat → List Nat
  | p, s :: s' :: t => (if cutsAt R cs (p + 1) = true then [cutPl row (s + 1) (s' - s - 1)] else []) ++ pairsC R cs row (p + 1) (s' :: t)
  | _, _ => []
theorem find_idx {α : Type} (f : α → Bool) : ∀ l : List α, l.find? f = (l.findIdx? f).bind fun i => l[i]?
  | [] => rfl
  | a :: l => by
    rw [List.find?_cons, List.findIdx?_cons]
    by_cases c : f a = true
    · rw [c, if_pos rfl]; rfl
    · have c2 : f a = false := by cases h : f a with | false => rfl | true => exact absurd h c
      rw [c2, if_neg (by decide), find_idx f l]
      cases l.findIdx? f <;> rfl
theorem here_at (R : Rules) (cs : List Nat) (p : Nat) (hp : p ≤ cs.length) : cutsHere R (cs.take p).reverse (cs.drop p) = cutsAt R cs p := by
  unfold cutsHere cutsAt decides
  by_cases c : p = 0 ∨ cs.length ≤ p
  · rw [if_pos c]
    rcases c with c | c
    · subst c; rfl
    · rw [List.drop_eq_nil_of_le c]
      show (_ && (false && _)) = false
      rw [Bool.false_and, Bool.and_false]
  · rw [if_neg c]
    have e1 : (cs.take p).reverse.isEmpty = false := by
      rw [List.isEmpty_eq_false_iff]
      intro z
      have := congrArg List.length z
      rw [List.length_reverse, List.length_take, Nat.min_eq_left hp] at this
      have h0 : p = 0 := this
      omega
    have e2 : (cs.drop p).isEmpty = false := by
      rw [List.isEmpty_eq_false_iff]
      intro z
      have := congrArg List.length z
      rw [List.length_drop] at this
      have h0 : cs.length - p = 0 := this
      omega
    rw [e1, e2]
    dsimp only [Bool.not_false, Bool.true_and]
    rw [find_idx]
    cases q : R.rules.findIdx? fun r => fitsHere R r (cs.take p).reverse (cs.drop p) with
    | none => rfl
    | some i =>
      have hi : i < R.rules.length := (List.findIdx?_eq_some_iff_findIdx_eq.mp q).1
      show (match R.rules[i]? with | some r => r.cut | none => false) = (R.rules[i]?.map fun r => r.cut).getD false
      rw [List.getElem?_eq_getElem hi]; rfl
theorem cutPl_skip (row : Row) : ∀ (n a m : Nat), (∀ i, a ≤ i → i < a + n → isOpenAt row i = false) → cutPl row a (n + m) = cutPl row (a + n) m
  | 0, a, m, _ => by rw [Nat.zero_add]; rfl
  | n + 1, a, m, h => by
    have e : n + 1 + m = (n + m) + 1 := by omega
    rw [e, cutPl, if_neg (by rw [h a (Nat.le_refl _) (by omega)]; decide), cutPl_skip row n (a + 1) m (fun i h1 h2 => h i (by omega) (by omega))]
    congr 1; omega
theorem spots_ge : ∀ (r : Row) (k : Nat), ∀ s ∈ spotsFrom k r, k ≤ s
  | [], _, _, h => by cases h
  | .char c :: r, k, s, h => by
    rcases List.mem_cons.mp h with rfl | h
    · exact Nat.le_refl _
    · have := spots_ge r (k + 1) s h; omega
  | .open_ c :: r, k, s, h => by have := spots_ge r (k + 1) s h; omega
  | .close c :: r, k, s, h => by have := spots_ge r (k + 1) s h; omega
  | .alone c :: r, k, s, h => by have := spots_ge r (k + 1) s h; omega
theorem spots_len : ∀ (r : Row) (k : Nat), (spotsFrom k r).length = (charsOf r).length
  | [], _ => rfl
  | .char c :: r, k => congrArg (· + 1) (spots_len r (k + 1))
  | .open_ c :: r, k => spots_len r (k + 1)
  | .close c :: r, k => spots_len r (k + 1)
  | .alone c :: r, k => spots_len r (k + 1)
theorem drop_next' {row r : Row} {p : Piece} {k : Nat} (h : row.drop k = p :: r) : row[k]? = some p ∧ row.drop (k + 1) = r := by
  have e : (row.drop k)[0]? = some p := by rw [h]; rfl
  rw [List.getElem?_drop] at e
  refine ⟨e, ?_⟩
  have := congrArg (List.drop 1) h
  rw [List.drop_drop] at this
  exact this
theorem chars_next {cs t : List Nat} {p c : Nat} (h : cs.drop p = c :: t) : (cs.take (p + 1)).reverse = c :: (cs.take p).reverse ∧ cs.drop (p + 1) = t ∧ p < cs.length := by
  have hl : p < cs.length := by
    rcases Nat.lt_or_ge p cs.length with q | q
    · exact q
    · rw [List.drop_eq_nil_of_le q] at h; cases h
  have e : cs.drop p = cs[p] :: cs.drop (p + 1) := List.drop_eq_getElem_cons hl
  rw [e] at h
  have h1 := (List.cons.inj h).1
  refine ⟨?_, (List.cons.inj h).2, hl⟩
  rw [List.take_succ_eq_append_getElem hl, List.reverse_append, h1]; rfl
theorem pairs_two (R : Rules) (cs : List Nat) (row : Row) (p s s' : Nat) (t : List Nat) : pairsC R cs row p (s :: s' :: t) = (if cutsAt R cs (p + 1) = true then [cutPl row (s + 1) (s' - s - 1)] else []) ++ pairsC R cs row (p + 1) (s' :: t) := rfl
mutual
/-- the place behind the last character isn't told yet -/
theorem cuts_here (R : Rules) (row : Row) (cs : List Nat) : ∀ (r : Row) (k p s : Nat), row.drop k = r → cs.drop p = charsOf r → p ≤ cs.length → 0 < p → s < k → (∀ i, s + 1 ≤ i → i < k → isOpenAt row i = false) →
    cutsFrom R r (cs.take p).reverse (cs.drop p) k true = pairsC R cs row (p - 1) (s :: spotsFrom k r)
  | [], k, p, s, _, _, _, _, _, _ => rfl
  | .char c :: r, k, p, s, hd, hc, hpl, hp, hs, ho => by
    have hn := drop_next' hd
    have hc2 : cs.drop p = c :: charsOf r := hc
    obtain ⟨c1, c2, c3⟩ := chars_next hc2
    have e : cutsFrom R (.char c :: r) (cs.take p).reverse (cs.drop p) k true = (if true = true ∧ cutsHere R (cs.take p).reverse (cs.drop p) = true then [k] else []) ++ cutsFrom R r (c :: (cs.take p).reverse) ((cs.drop p).drop 1) (k + 1) true := rfl
    have ih := cuts_here R row cs r (k + 1) (p + 1) k hn.2 (c2.trans rfl) (by omega) (by omega) (by omega) (fun i h1 h2 => by omega)
    rw [e, here_at R cs p hpl, ← c1, List.drop_drop, ih]
    have e2 : spotsFrom k (.char c :: r) = k :: spotsFrom (k + 1) r := rfl
    rw [e2, pairs_two]
    have e3 : p - 1 + 1 = p := by omega
    have e4 : cutPl row (s + 1) (k - s - 1) = k := by
      have := cutPl_skip row (k - s - 1) (s + 1) 0 (fun i h1 h2 => ho i h1 (by omega))
      have e9 : cutPl row (s + 1) (k - s - 1) = s + 1 + (k - s - 1) := this
      omega
    rw [e3, e4, Nat.add_sub_cancel]
    congr 1
    by_cases q : cutsAt R cs p = true
    · rw [if_pos ⟨rfl, q⟩, if_pos q]
    · rw [if_neg (fun z => q z.2), if_neg q]
  | .open_ c :: r, k, p, s, hd, hc, hpl, hp, hs, ho => by
    have hn := drop_next' hd
    have hc2 : cs.drop p = charsOf r := hc
    have e : cutsFrom R (.open_ c :: r) (cs.take p).reverse (cs.drop p) k true = (if true = true ∧ cutsHere R (cs.take p).reverse (cs.drop p) = true then [k] else []) ++ cutsFrom R r (cs.take p).reverse (cs.drop p) (k + 1) false := rfl
    have ih := cuts_past R row cs r (k + 1) p hn.2 hc2 hpl
    rw [e, here_at R cs p hpl, ih]
    have e2 : spotsFrom k (.open_ c :: r) = spotsFrom (k + 1) r := rfl
    rw [e2]
    have hsl := spots_len r (k + 1)
    have hge := spots_ge r (k + 1)
    cases hsp : spotsFrom (k + 1) r with
    | nil =>
      rw [hsp] at hsl
      have hz : charsOf r = [] := List.eq_nil_of_length_eq_zero hsl.symm
      rw [hz] at hc2
      have hpe : cs.length ≤ p := List.drop_eq_nil_iff.mp hc2
      have hf : cutsAt R cs p = false := by
        unfold cutsAt decides
        rw [if_pos (Or.inr hpe)]
      rw [if_neg (fun z => by rw [hf] at z; exact absurd z.2 (by decide))]
      rfl
    | cons s' t =>
      rw [hsp] at hge
      have hs' := hge s' List.mem_cons_self
      rw [pairs_two]
      have e3 : p - 1 + 1 = p := by omega
      have e4 : cutPl row (s + 1) (s' - s - 1) = k := by
        have := cutPl_skip row (k - s - 1) (s + 1) (s' - k - 1 + 1) (fun i h1 h2 => ho i h1 (by omega))
        have e5 : k - s - 1 + (s' - k - 1 + 1) = s' - s - 1 := by omega
        have e6 : s + 1 + (k - s - 1) = k := by omega
        rw [e5, e6, cutPl, if_pos (by unfold isOpenAt; rw [hn.1])] at this
        exact this
      rw [e3, e4]
      congr 1
      by_cases q : cutsAt R cs p = true
      · rw [if_pos ⟨rfl, q⟩, if_pos q]
      · rw [if_neg (fun z => q z.2), if_neg q]
  | .close c :: r, k, p, s, hd, hc, hpl, hp, hs, ho => by
    have hn := drop_next' hd
    refine cuts_here R row cs r (k + 1) p s hn.2 hc hpl hp (by omega) (fun i h1 h2 => ?_)
    by_cases e : i = k
    · subst e; unfold isOpenAt; rw [hn.1]
    · exact ho i h1 (by omega)
  | .alone c :: r, k, p, s, hd, hc, hpl, hp, hs, ho => by
    have hn := drop_next' hd
    refine cuts_here R row cs r (k + 1) p s hn.2 hc hpl hp (by omega) (fun i h1 h2 => ?_)
    by_cases e : i = k
    · subst e; unfold isOpenAt; rw [hn.1]
    · exact ho i h1 (by omega)
theorem cuts_past (R : Rules) (row : Row) (cs : List Nat) : ∀ (r : Row) (k p : Nat), row.drop k = r → cs.drop p = charsOf r → p ≤ cs.length →
    cutsFrom R r (cs.take p).reverse (cs.drop p) k false = pairsC R cs row p (spotsFrom k r)
  | [], k, p, _, _, _ => rfl
  | .char c :: r, k, p, hd, hc, hpl => by
    have hn := drop_next' hd
    have hc2 : cs.drop p = c :: charsOf r := hc
    obtain ⟨c1, c2, c3⟩ := chars_next hc2
    have e : cutsFrom R (.char c :: r) (cs.take p).reverse (cs.drop p) k false = (if false = true ∧ cutsHere R (cs.take p).reverse (cs.drop p) = true then [k] else []) ++ cutsFrom R r (c :: (cs.take p).reverse) ((cs.drop p).drop 1) (k + 1) true := rfl
    have ih := cuts_here R row cs r (k + 1) (p + 1) k hn.2 c2 (by omega) (by omega) (by omega) (fun i h1 h2 => by omega)
    rw [e, if_neg (fun z => absurd z.1 (by decide)), ← c1, List.drop_drop, ih, Nat.add_sub_cancel]
    rfl
  | .open_ c :: r, k, p, hd, hc, hpl => cuts_past R row cs r (k + 1) p (drop_next' hd).2 hc hpl
  | .close c :: r, k, p, hd, hc, hpl => cuts_past R row cs r (k + 1) p (drop_next' hd).2 hc hpl
  | .alone c :: r, k, p, hd, hc, hpl => cuts_past R row cs r (k + 1) p (drop_next' hd).2 hc hpl
end
theorem cuts_eq (R : Rules) (row : Row) : cutsOf R row = pairsC R (charsOf row) row 0 (spotsFrom 0 row) := by
  have := cuts_past R row (charsOf row) row 0 0 rfl rfl (Nat.zero_le _)
  exact this
end Sm
namespace Sm
open Fh
theorem spots_lt : ∀ (r : Row) (k : Nat), ∀ s ∈ spotsFrom k r, s < k + r.length
  | [], _, _, h => by cases h
  | .char c :: r, k, s, h => by
    rw [List.length_cons]
    rcases List.mem_cons.mp h with rfl | h
    · omega
    · have := spots_lt r (k + 1) s h; omega
  | .open_ c :: r, k, s, h => by have := spots_lt r (k + 1) s h; rw [List.length_cons]; omega
  | .close c :: r, k, s, h => by have := spots_lt r (k + 1) s h; rw [List.length_cons]; omega
  | .alone c :: r, k, s, h => by have := spots_lt r (k + 1) s h; rw [List.length_cons]; omega
theorem spots_up : ∀ (r : Row) (k : Nat), (spotsFrom k r).Pairwise (· < ·)
  | [], _ => .nil
  | .char c :: r, k => .cons (fun s hs => by have := spots_ge r (k + 1) s hs; omega) (spots_up r (k + 1))
  | .open_ c :: r, k => spots_up r (k + 1)
  | .close c :: r, k => spots_up r (k + 1)
  | .alone c :: r, k => spots_up r (k + 1)
theorem spots_app : ∀ (a b : Row) (k : Nat), spotsFrom k (a ++ b) = spotsFrom k a ++ spotsFrom (k + a.length) b
  | [], b, k => rfl
  | .char c :: a, b, k => by
    show k :: spotsFrom (k + 1) (a ++ b) = k :: spotsFrom (k + 1) a ++ _
    rw [spots_app a b (k + 1), List.length_cons, show k + 1 + a.length = k + (a.length + 1) by omega]; rfl
  | .open_ c :: a, b, k => by
    show spotsFrom (k + 1) (a ++ b) = spotsFrom (k + 1) a ++ _
    rw [spots_app a b (k + 1), List.length_cons, show k + 1 + a.length = k + (a.length + 1) by omega]
  | .close c :: a, b, k => by
    show spotsFrom (k + 1) (a ++ b) = spotsFrom (k + 1) a ++ _
    rw [spots_app a b (k + 1), List.length_cons, show k + 1 + a.length = k + (a.length + 1) by omega]
  | .alone c :: a, b, k => by
    show spotsFrom (k + 1) (a ++ b) = spotsFrom (k + 1) a ++ _
    rw [spots_app a b (k + 1), List.length_cons, show k + 1 + a.length = k + (a.length + 1) by omega]
end Sm
/-! ## Segments, by their places -/
namespace Sm
open Fh
def blankP (p : Piece) : Bool := p == .char BLANK
def moreM (row : Row) : Bool := row.any fun p => match p with
  | .char c => decide (c ≠ 32)
  | _ => false
def leadN (row : Row) : Nat := (row.takeWhile blankP).length
theorem lead_yes {p : Piece} {r : Row} (h : blankP p = true) : leadN (p :: r) = leadN r + 1 := by unfold leadN; rw [List.takeWhile_cons_of_pos h]; rfl
theorem lead_no {p : Piece} {r : Row} (h : blankP p = false) : leadN (p :: r) = 0 := by unfold leadN; rw [List.takeWhile_cons_of_neg (by rw [h]; decide)]; rfl
theorem more_bare (r : Row) : isBare r = !moreM r := by
  unfold isBare
  induction r with
  | nil => rfl
  | cons p r ih =>
    cases p with
    | char c =>
      show ((c == BLANK) && (charsOf r).all fun c => c == BLANK) = !(decide (c ≠ 32) || moreM r)
      rw [ih, Bool.not_or]
      congr 1
      by_cases h : c = 32
      · subst h; rfl
      · rw [decide_eq_true (show c ≠ 32 from h)]
        show (c == 32) = false
        rw [beq_eq_false_iff_ne]; exact h
    | open_ n => exact ih
    | close n => exact ih
    | alone n => exact ih
/-- a piece that isn't a blank stands there -/
def solid (r : Row) : Prop := ∃ p ∈ r, blankP p = false
theorem more_solid {r : Row} (h : moreM r = true) : solid r := by
  unfold moreM at h
  rw [List.any_eq_true] at h
  obtain ⟨p, hp, h⟩ := h
  refine ⟨p, hp, ?_⟩
  cases p with
  | char c =>
    have : c ≠ 32 := of_decide_eq_true h
    unfold blankP
    rw [beq_eq_false_iff_ne]
    intro z
    cases z
    exact this rfl
  | open_ n => rfl
  | close n => rfl
  | alone n => rfl
theorem lead_app : ∀ {x y : Row}, solid x → leadN (x ++ y) = leadN x
  | [], _, h => by obtain ⟨p, hp, _⟩ := h; cases hp
  | p :: x, y, h => by
    cases c : blankP p with
    | true =>
      rw [List.cons_append, lead_yes c, lead_yes c, lead_app]
      obtain ⟨q, hq, hb⟩ := h
      rcases List.mem_cons.mp hq with rfl | hq
      · rw [c] at hb; cases hb
      · exact ⟨q, hq, hb⟩
    | false => rw [List.cons_append, lead_no c, lead_no c]
theorem lead_lt : ∀ {x : Row}, solid x → leadN x < x.length
  | [], h => by obtain ⟨p, hp, _⟩ := h; cases hp
  | p :: x, h => by
    cases c : blankP p with
    | true =>
      rw [lead_yes c, List.length_cons]
      have : solid x := by
        obtain ⟨q, hq, hb⟩ := h
        rcases List.mem_cons.mp hq with rfl | hq
        · rw [c] at hb; cases hb
        · exact ⟨q, hq, hb⟩
      have := lead_lt this
      omega
    | false => rw [lead_no c, List.length_cons]; omega
theorem lead_take (x : Row) : leading x = x.take (leadN x) := by
  show x.takeWhile blankP = _
  unfold leadN
  induction x with
  | nil => rfl
  | cons p x ih =>
    cases c : blankP p with
    | true => rw [List.takeWhile_cons_of_pos c, List.length_cons, List.take_succ_cons, ← ih]
    | false => rw [List.takeWhile_cons_of_neg (by rw [c]; decide)]; rfl
theorem solid_drop : ∀ {x : Row}, solid x → solid (x.drop (leadN x))
  | [], h => h
  | p :: x, h => by
    cases c : blankP p with
    | true =>
      rw [lead_yes c, List.drop_succ_cons]
      apply solid_drop
      obtain ⟨q, hq, hb⟩ := h
      rcases List.mem_cons.mp hq with rfl | hq
      · rw [c] at hb; cases hb
      · exact ⟨q, hq, hb⟩
    | false => rw [lead_no c]; exact h
theorem solid_rev {x : Row} (h : solid x) : solid x.reverse := by
  obtain ⟨p, hp, hb⟩ := h
  exact ⟨p, List.mem_reverse.mpr hp, hb⟩
/-- the pieces from a place to another one -/
def sl (row : Row) (i j : Nat) : Row := (row.take j).drop i
theorem sl_len {row : Row} {i j : Nat} (h : j ≤ row.length) : (sl row i j).length = j - i := by
  unfold sl; rw [List.length_drop, List.length_take, Nat.min_eq_left h]
theorem sl_app {row : Row} {i j k : Nat} (h1 : i ≤ j) (h2 : j ≤ k) : sl row i j ++ sl row j k = sl row i k := by
  unfold sl
  have e : row.take j = (row.take k).take j := by rw [List.take_take, Nat.min_eq_left h2]
  rw [e, List.drop_take]
  have e2 : (row.take k).drop j = ((row.take k).drop i).drop (j - i) := by rw [List.drop_drop]; congr 1; omega
  rw [e2, List.take_append_drop]
theorem sl_take {row : Row} {i j n : Nat} (h : i + n ≤ j) : (sl row i j).take n = sl row i (i + n) := by
  unfold sl
  rw [List.drop_take, List.drop_take, List.take_take]
  congr 1
  omega
theorem sl_drop {row : Row} {i j n : Nat} : (sl row i j).drop n = sl row (i + n) j := by
  unfold sl; rw [List.drop_drop]
def posM (row : Row) : List Nat → Nat → Nat → List (Nat × Nat × Nat)
  | [], _, _ => []
  | e :: es, g, b => if moreM (sl row b e) = true then (g, b + leadN (row.drop b), e - leadN (row.take e).reverse) :: posM row es (e - leadN (row.take e).reverse) e else posM row es g e
/-- where the last glue begins -/
def lastM (row : Row) : List Nat → Nat → Nat → Nat
  | [], g, _ => g
  | e :: es, g, b => if moreM (sl row b e) = true then lastM row es (e - leadN (row.take e).reverse) e else lastM row es g e
theorem lead_rep (x : Row) : leading x = List.replicate (leadN x) (.char BLANK) := by
  show x.takeWhile blankP = _
  unfold leadN
  induction x with
  | nil => rfl
  | cons p x ih =>
    cases c : blankP p with
    | true =>
      rw [List.takeWhile_cons_of_pos c, List.length_cons, List.replicate_succ, ← ih]
      congr 1
      exact eq_of_beq c
    | false => rw [List.takeWhile_cons_of_neg (by rw [c]; decide)]; rfl
theorem trimmed_eq {row : Row} {b e : Nat} (hbe : b ≤ e) (he : e ≤ row.length) (h : moreM (sl row b e) = true) :
    trimmed (sl row b e) = (sl row b (b + leadN (row.drop b)), sl row (b + leadN (row.drop b)) (e - leadN (row.take e).reverse), sl row (e - leadN (row.take e).reverse) e) ∧
      b + leadN (row.drop b) < e - leadN (row.take e).reverse := by
  have S := more_solid h
  have hl : (sl row b e).length = e - b := sl_len he
  have e1 : leadN (row.drop b) = leadN (sl row b e) := by
    have : row.drop b = sl row b e ++ row.drop e := by
      unfold sl
      rw [List.drop_take]
      have e2 : row.drop e = (row.drop b).drop (e - b) := by rw [List.drop_drop]; congr 1; omega
      rw [e2, List.take_append_drop]
    rw [this, lead_app S]
  have e2 : leadN (row.take e).reverse = leadN (sl row b e).reverse := by
    have : row.take e = row.take b ++ sl row b e := by
      unfold sl
      have e3 : row.take b = (row.take e).take b := by rw [List.take_take, Nat.min_eq_left hbe]
      rw [e3, List.take_append_drop]
    rw [this, List.reverse_append, lead_app (solid_rev S)]
  rw [e1, e2]
  have hA := lead_lt S
  have Sy := solid_drop S
  have e3 : leadN (sl row b e).reverse = leadN ((sl row b e).drop (leadN (sl row b e))).reverse := by
    have : (sl row b e).reverse = ((sl row b e).drop (leadN (sl row b e))).reverse ++ ((sl row b e).take (leadN (sl row b e))).reverse := by
      rw [← List.reverse_append, List.take_append_drop]
    rw [this, lead_app (solid_rev Sy)]
  have hZ := lead_lt (solid_rev Sy)
  rw [List.length_reverse, List.length_drop, ← e3, hl] at hZ
  rw [hl] at hA
  have eT : trimmed (sl row b e) = (leading (sl row b e), ((sl row b e).drop (leading (sl row b e)).length).take ((sl row b e).length - (leading (sl row b e)).length - (leading ((sl row b e).drop (leading (sl row b e)).length).reverse).length), leading ((sl row b e).drop (leading (sl row b e)).length).reverse) := rfl
  have eL : (leading (sl row b e)).length = leadN (sl row b e) := rfl
  have eZ : (leading ((sl row b e).drop (leadN (sl row b e))).reverse).length = leadN (sl row b e).reverse := e3.symm
  rw [eT, eL, eZ]
  generalize hAA : leadN (sl row b e) = A at *
  generalize hZZ : leadN (sl row b e).reverse = Z at *
  refine ⟨?_, by omega⟩
  have c1 : leading (sl row b e) = sl row b (b + A) := by rw [lead_take, hAA, sl_take (by omega)]
  have c2 : ((sl row b e).drop A).take ((sl row b e).length - A - Z) = sl row (b + A) (e - Z) := by
    rw [sl_drop, sl_take (by omega)]
    congr 1; omega
  have c3 : leading ((sl row b e).drop A).reverse = sl row (e - Z) e := by
    have r1 := lead_take ((sl row b e).drop A).reverse
    have r2 := lead_rep ((sl row b e).drop A).reverse
    rw [← e3] at r1 r2
    have r3 : ((sl row b e).drop A).reverse.take Z = (sl row (e - Z) e).reverse := by
      rw [List.take_reverse, List.length_drop, sl_drop, sl_drop, hl]
      congr 2; omega
    rw [r3] at r1
    have r4 : sl row (e - Z) e = (leading ((sl row b e).drop A).reverse).reverse := by rw [r1, List.reverse_reverse]
    rw [r4, r2, List.reverse_replicate]
  rw [c1, c2, c3]
end Sm
namespace Sm
open Fh
theorem sl_all (row : Row) (b : Nat) : sl row b row.length = row.drop b := by unfold sl; rw [List.take_length]
theorem sl_of (row : Row) {b c : Nat} (h : b ≤ c) : (row.drop b).take (c - b) = sl row b c := by unfold sl; rw [List.drop_take]
abbrev Pos := Nat × Nat × Nat
def partOf (row : Row) (x : Pos) : Row × Row := (sl row x.1 x.2.1, sl row x.2.1 x.2.2)
theorem parts_step {row : Row} {g b e : Nat} {rest : List Row} (hgb : g ≤ b) (hbe : b ≤ e) (he : e ≤ row.length) :
    partsFrom (sl row g b) (sl row b e :: rest) = if moreM (sl row b e) = true then
      (partOf row (g, b + leadN (row.drop b), e - leadN (row.take e).reverse) :: (partsFrom (sl row (e - leadN (row.take e).reverse) e) rest).1, (partsFrom (sl row (e - leadN (row.take e).reverse) e) rest).2)
      else partsFrom (sl row g e) rest := by
  have e0 : partsFrom (sl row g b) (sl row b e :: rest) = if isBare (sl row b e) = true then partsFrom (sl row g b ++ sl row b e) rest else
    ((sl row g b ++ (trimmed (sl row b e)).1, (trimmed (sl row b e)).2.1) :: (partsFrom (trimmed (sl row b e)).2.2 rest).1, (partsFrom (trimmed (sl row b e)).2.2 rest).2) := rfl
  rw [e0, more_bare]
  by_cases c : moreM (sl row b e) = true
  · have t := trimmed_eq hbe he c
    rw [c, if_neg (by decide), if_pos rfl, t.1]
    unfold partOf
    dsimp only
    rw [sl_app hgb (by omega)]
  · have c2 : moreM (sl row b e) = false := by cases h : moreM (sl row b e) with | false => rfl | true => exact absurd h c
    rw [c2, if_pos (by decide), if_neg (by decide), sl_app hgb hbe]
theorem parts_pos (row : Row) : ∀ (cuts : List Nat) (g b : Nat), (b :: cuts).Pairwise (· ≤ ·) → (∀ c ∈ cuts, c ≤ row.length) → g ≤ b → b ≤ row.length →
    partsFrom (sl row g b) (stretches b cuts (row.drop b)) = ((posM row (cuts ++ [row.length]) g b).map (partOf row), sl row (lastM row (cuts ++ [row.length]) g b) row.length)
  | [], g, b, _, _, hgb, hb => by
    show partsFrom (sl row g b) [row.drop b] = _
    rw [← sl_all row b, parts_step hgb hb (Nat.le_refl _)]
    rw [List.nil_append, posM, lastM]
    by_cases c : moreM (sl row b row.length) = true
    · rw [if_pos c, if_pos c, if_pos c]; rfl
    · rw [if_neg c, if_neg c, if_neg c]; rfl
  | c :: l, g, b, hp, hc, hgb, hb => by
    have hbc : b ≤ c := List.rel_of_pairwise_cons hp List.mem_cons_self
    have hcl : c ≤ row.length := hc c List.mem_cons_self
    have hp2 : (c :: l).Pairwise (· ≤ ·) := (List.pairwise_cons.mp hp).2
    have hc2 : ∀ x ∈ l, x ≤ row.length := fun x hx => hc x (List.mem_cons_of_mem _ hx)
    have e : stretches b (c :: l) (row.drop b) = sl row b c :: stretches c l (row.drop c) := by
      show (row.drop b).take (c - b) :: stretches c l ((row.drop b).drop (c - b)) = _
      rw [sl_of row hbc, List.drop_drop, show b + (c - b) = c by omega]
    rw [e, parts_step hgb hbc hcl, List.cons_append, posM, lastM]
    by_cases q : moreM (sl row b c) = true
    · have t := trimmed_eq hbc hcl q
      rw [if_pos q, if_pos q, if_pos q, parts_pos row l _ c hp2 hc2 (Nat.sub_le _ _) hcl]
      rfl
    · rw [if_neg q, if_neg q, if_neg q]
      exact parts_pos row l g c hp2 hc2 (by omega) hcl
/-! cuts rise -/
theorem cutPl_ge (row : Row) : ∀ (n a : Nat), a ≤ cutPl row a n ∧ cutPl row a n ≤ a + n
  | 0, a => ⟨Nat.le_refl _, Nat.le_refl _⟩
  | n + 1, a => by
    rw [cutPl]
    by_cases c : isOpenAt row a = true
    · rw [if_pos c]; omega
    · rw [if_neg c]
      have := cutPl_ge row n (a + 1)
      omega
theorem pairs_up (R : Rules) (cs : List Nat) (row : Row) : ∀ (sp : List Nat) (p : Nat), sp.Pairwise (· < ·) → (pairsC R cs row p sp).Pairwise (· ≤ ·) ∧ (∀ c ∈ pairsC R cs row p sp, (∀ s ∈ sp.head?, s < c) ∧ ∃ s ∈ sp, c ≤ s)
  | [], _, _ => ⟨.nil, fun _ h => absurd h List.not_mem_nil⟩
  | [_], _, _ => ⟨.nil, fun _ h => absurd h List.not_mem_nil⟩
  | s :: s' :: t, p, h => by
    have ih := pairs_up R cs row (s' :: t) (p + 1) (List.pairwise_cons.mp h).2
    have hlt : s < s' := List.rel_of_pairwise_cons h List.mem_cons_self
    have g := cutPl_ge row (s' - s - 1) (s + 1)
    rw [pairs_two]
    have rest : ∀ c ∈ pairsC R cs row (p + 1) (s' :: t), s' < c ∧ ∃ x ∈ s :: s' :: t, c ≤ x := fun c hc => by
      have q := ih.2 c hc
      obtain ⟨x, hx, hx2⟩ := q.2
      exact ⟨q.1 s' rfl, x, List.mem_cons_of_mem _ hx, hx2⟩
    by_cases q : cutsAt R cs (p + 1) = true
    · rw [if_pos q]
      refine ⟨List.pairwise_cons.mpr ⟨fun c hc => by have := (rest c hc).1; omega, ih.1⟩, fun c hc => ?_⟩
      rcases List.mem_cons.mp hc with rfl | hc
      · exact ⟨fun x hx => by cases hx; omega, s', List.mem_cons_of_mem _ List.mem_cons_self, by omega⟩
      · have r := rest c hc
        exact ⟨fun x hx => by cases hx; omega, r.2⟩
    · rw [if_neg q]
      refine ⟨ih.1, fun c hc => ?_⟩
      have r := rest c hc
      exact ⟨fun x hx => by cases hx; omega, r.2⟩
theorem cuts_up (R : Rules) (row : Row) : (0 :: cutsOf R row).Pairwise (· ≤ ·) ∧ ∀ c ∈ cutsOf R row, c ≤ row.length := by
  rw [cuts_eq]
  have q := pairs_up R (charsOf row) row (spotsFrom 0 row) 0 (spots_up row 0)
  refine ⟨List.pairwise_cons.mpr ⟨fun _ _ => Nat.zero_le _, q.1⟩, fun c hc => ?_⟩
  obtain ⟨s, hs, hle⟩ := (q.2 c hc).2
  have := spots_lt row 0 s hs
  omega
/-- a row's parts by their places: the glue's beginning, the segment's, its end -/
def posOf (R : Rules) (row : Row) : List Pos := posM row (cutsOf R row ++ [row.length]) 0 0
theorem parted_eq (R : Rules) (row : Row) : parted R row = ((posOf R row).map (partOf row), sl row (lastM row (cutsOf R row ++ [row.length]) 0 0) row.length) := by
  have c := cuts_up R row
  have h := parts_pos row (cutsOf R row) 0 0 c.1 c.2 (Nat.le_refl _) (Nat.zero_le _)
  exact h
end Sm
/-! ## What rows that were read keep; where parts stand -/
namespace Sm
open Fh
theorem mayBe_end {n v : Nat} (h : mayBe n n v = true) : v ≤ mostOf n := by
  unfold mayBe at h
  rw [Nat.sub_self, Nat.pow_zero, Nat.mul_one, decide_eq_true_eq] at h
  have h2 : ∀ c, c ≤ nextChar c := by
    intro c
    unfold nextChar
    split
    · omega
    · split
      · omega
      · split
        · omega
        · split
          · omega
          · omega
  have h3 := h2 (max v (leastOf n))
  omega
theorem goOn_bound : ∀ (f n k v : Nat) (b : Bytes) (w : Nat), goOn f n k v b = .ok w → n + 1 ≤ f + k → k ≤ n → mayBe n k v = true → mayBe n n w = true
  | 0, n, k, v, b, w, _, h1, h2, _ => absurd h1 (by omega)
  | f + 1, n, k, v, b, w, h, h1, h2, h3 => by
    by_cases e : k = n
    · subst e
      rw [goOn_done] at h
      cases h
      exact h3
    · cases b with
      | nil => rw [goOn_nil e] at h; cases h
      | cons c r =>
        by_cases y : c.toNat / 64 = 2 ∧ mayBe n (k + 1) (v * 64 + c.toNat % 64) = true
        · rw [goOn_yes e y] at h
          exact goOn_bound f n (k + 1) _ r w h (by omega) (by omega) y.2
        · rw [goOn_no e y] at h; cases h
theorem lengthBy_le (c : Nat) : lengthBy c ≤ 4 := by
  unfold lengthBy
  repeat (split <;> try omega)
theorem mostOf_le (n : Nat) : mostOf n ≤ 1114111 := by
  unfold mostOf
  repeat (split <;> try omega)
theorem char_bound {b : Bytes} {x : Nat × Nat} (h : charHere b = .ok x) : x.1 < 1114112 := by
  cases b with
  | nil => cases h
  | cons c r =>
    rw [charHere] at h
    by_cases e : lengthBy c.toNat = 0 ∨ mayBe (lengthBy c.toNat) 1 (headOf (lengthBy c.toNat) c.toNat) = false
    · rw [if_pos e] at h; cases h
    · rw [if_neg e] at h
      rw [not_or] at e
      have e2 : mayBe (lengthBy c.toNat) 1 (headOf (lengthBy c.toNat) c.toNat) = true := by
        cases z : mayBe (lengthBy c.toNat) 1 (headOf (lengthBy c.toNat) c.toNat) with
        | true => rfl
        | false => exact absurd z e.2
      have l4 := lengthBy_le c.toNat
      generalize lengthBy c.toNat = n at *
      generalize headOf n c.toNat = v at *
      cases g : goOn 4 n 1 v r with
      | error k => rw [g] at h; cases h
      | ok w =>
        rw [g] at h
        cases h
        have q := mayBe_end (goOn_bound 4 n 1 v r w g (by omega) (by omega) e2)
        have q2 := mostOf_le n
        show w < 1114112
        omega
/-- a piece as it may be read -/
def goodP : Piece → Prop
  | .char c => c < 1114112
  | .open_ n => 1 ≤ n ∧ n ≤ 999
  | .close n => 1 ≤ n ∧ n ≤ 999
  | .alone n => 1 ≤ n ∧ n ≤ 999
theorem isDigit_nat {c : UInt8} (h : isDigit c = true) : 48 ≤ c.toNat ∧ c.toNat ≤ 57 := by
  unfold isDigit at h
  rw [Bool.and_eq_true, decide_eq_true_eq, decide_eq_true_eq] at h
  exact ⟨UInt8.le_iff_toNat_le.mp h.1, UInt8.le_iff_toNat_le.mp h.2⟩
theorem digits_bound : ∀ (r : Bytes) (n v : Nat) (x : Nat × Nat), digitsHere n v r = .ok x → ((n = 0 ∧ v = 0) ∨ (n = 1 ∧ 1 ≤ v ∧ v ≤ 9) ∨ (n = 2 ∧ 1 ≤ v ∧ v ≤ 99) ∨ (n = 3 ∧ 1 ≤ v ∧ v ≤ 999)) → 1 ≤ x.1 ∧ x.1 ≤ 999
  | [], n, v, x, h, _ => by rw [digitsHere] at h; cases h
  | c :: r, n, v, x, h, hv => by
    rw [digitsHere] at h
    by_cases h0 : n = 0
    · rw [if_pos h0] at h
      by_cases h1 : 49 ≤ c.toNat ∧ c.toNat ≤ 57
      · rw [if_pos h1] at h
        cases g : digitsHere 1 (c.toNat - 48) r with
        | error k => rw [g] at h; cases h
        | ok y =>
          rw [g] at h
          cases h
          exact digits_bound r 1 _ _ g (Or.inr (Or.inl ⟨rfl, by omega, by omega⟩))
      · rw [if_neg h1] at h; cases h
    · rw [if_neg h0] at h
      by_cases h1 : c = 125
      · rw [if_pos h1] at h
        cases h
        show 1 ≤ v ∧ v ≤ 999
        omega
      · rw [if_neg h1] at h
        by_cases h2 : n < 3 ∧ isDigit c = true
        · rw [if_pos h2] at h
          have hd := isDigit_nat h2.2
          cases g : digitsHere (n + 1) (10 * v + (c.toNat - 48)) r with
          | error k => rw [g] at h; cases h
          | ok y =>
            rw [g] at h
            cases h
            refine digits_bound r (n + 1) _ _ g ?_
            omega
        · rw [if_neg h2] at h; cases h
theorem piece_good {b : Bytes} {x : Piece × Nat} (h : pieceHere b = .ok x) : goodP x.1 := by
  cases b with
  | nil => cases h
  | cons c r =>
    rw [pieceHere.eq_def] at h
    dsimp only at h
    by_cases h1 : c = 123
    · rw [if_pos h1] at h
      cases r with
      | nil => cases h
      | cons s d =>
        dsimp only at h
        by_cases h2 : s = 123
        · rw [if_pos h2] at h
          cases h
          exact (by omega : 123 < 1114112)
        · rw [if_neg h2] at h
          by_cases h3 : s = 43 ∨ s = 45 ∨ s = 46
          · rw [if_pos h3] at h
            cases g : digitsHere 0 0 d with
            | error k => rw [g] at h; cases h
            | ok y =>
              rw [g] at h
              cases h
              have q := digits_bound d 0 0 y g (Or.inl ⟨rfl, rfl⟩)
              show goodP (tagOf s y.1)
              unfold tagOf
              split
              · exact q
              · split
                · exact q
                · exact q
          · rw [if_neg h3] at h; cases h
    · rw [if_neg h1] at h
      cases g : charHere (c :: r) with
      | error k => rw [g] at h; cases h
      | ok y =>
        rw [g] at h
        cases h
        exact char_bound g
theorem rowFrom_good : ∀ (f p : Nat) (l : Row) (b : Bytes) (x : Row), rowFrom f p l b = .ok x → (∀ q ∈ l, goodP q) → ∀ q ∈ x, goodP q
  | f, p, l, [], x, h, hl => by
    have h : Except.ok l.reverse = (Except.ok x : Except Nat Row) := by cases f <;> exact h
    cases h
    intro q hq
    exact hl q (List.mem_reverse.mp hq)
  | 0, p, l, c :: b, x, h, hl => by cases h
  | f + 1, p, l, c :: b, x, h, hl => by
    rw [rowFrom] at h
    cases g : pieceHere (c :: b) with
    | error k => rw [g] at h; cases h
    | ok y =>
      rw [g] at h
      refine rowFrom_good f _ _ _ x h fun q hq => ?_
      rcases List.mem_cons.mp hq with rfl | hq
      · exact piece_good g
      · exact hl q hq
theorem row_good {b : Bytes} {x : Row} (h : rowRead b = .ok x) : ∀ q ∈ x, goodP q := rowFrom_good _ _ _ _ _ h (fun q hq => nomatch hq)
/-! ### where parts stand -/
/-- parts that follow each other from a place on -/
def Chain (row : Row) : Nat → List Pos → Prop
  | _, [] => True
  | g, x :: l => x.1 = g ∧ g ≤ x.2.1 ∧ x.2.1 < x.2.2 ∧ x.2.2 ≤ row.length ∧ Chain row x.2.2 l
def endOf (g : Nat) : List Pos → Nat
  | [] => g
  | x :: l => endOf x.2.2 l
theorem chain_pos (row : Row) : ∀ (es : List Nat) (g b : Nat), (b :: es).Pairwise (· ≤ ·) → (∀ c ∈ es, c ≤ row.length) → g ≤ b → Chain row g (posM row es g b) ∧ lastM row es g b = endOf g (posM row es g b)
  | [], g, b, _, _, _ => ⟨trivial, rfl⟩
  | e :: es, g, b, hp, hl, hg => by
    have hbe : b ≤ e := List.rel_of_pairwise_cons hp List.mem_cons_self
    have hp2 := (List.pairwise_cons.mp hp).2
    have hel : e ≤ row.length := hl e List.mem_cons_self
    have hl2 : ∀ c ∈ es, c ≤ row.length := fun c hc => hl c (List.mem_cons_of_mem _ hc)
    rw [posM, lastM]
    by_cases c : moreM (sl row b e) = true
    · rw [if_pos c, if_pos c]
      have t := (trimmed_eq hbe hel c).2
      have ih := chain_pos row es (e - leadN (row.take e).reverse) e hp2 hl2 (Nat.sub_le _ _)
      refine ⟨⟨rfl, ?_, t, ?_, ih.1⟩, ih.2⟩
      · show g ≤ b + leadN (row.drop b); omega
      · show e - leadN (row.take e).reverse ≤ row.length; omega
    · rw [if_neg c, if_neg c]
      exact chain_pos row es g e hp2 hl2 (by omega)
theorem chain_row (R : Rules) (row : Row) : Chain row 0 (posOf R row) ∧ lastM row (cutsOf R row ++ [row.length]) 0 0 = endOf 0 (posOf R row) := by
  have cu := cuts_up R row
  refine chain_pos row _ 0 0 ?_ ?_ (Nat.le_refl _)
  · rw [← List.cons_append, List.pairwise_append]
    refine ⟨cu.1, List.pairwise_singleton .., fun a ha b hb => ?_⟩
    rw [List.mem_singleton] at hb
    subst hb
    rcases List.mem_cons.mp ha with rfl | ha
    · exact Nat.zero_le _
    · exact cu.2 a ha
  · intro x hx
    rcases List.mem_append.mp hx with hx | hx
    · exact cu.2 x hx
    · rw [List.mem_singleton] at hx; omega
theorem chain_get {row : Row} : ∀ {l : List Pos} {g k : Nat} {x : Pos}, Chain row g l → l[k]? = some x → x.1 = endOf g (l.take k) ∧ x.1 ≤ x.2.1 ∧ x.2.1 < x.2.2 ∧ x.2.2 ≤ row.length
  | [], g, k, x, _, h => by cases h
  | y :: l, g, 0, x, c, h => by
    cases h
    exact ⟨c.1, by rw [c.1]; exact c.2.1, c.2.2.1, c.2.2.2.1⟩
  | y :: l, g, k + 1, x, c, h => chain_get (l := l) c.2.2.2.2 h
theorem endOf_le {row : Row} : ∀ {l : List Pos} {g : Nat}, Chain row g l → g ≤ row.length → g ≤ endOf g l ∧ endOf g l ≤ row.length
  | [], g, _, h => ⟨Nat.le_refl _, h⟩
  | y :: l, g, c, h => by
    have ih := endOf_le (l := l) c.2.2.2.2 c.2.2.2.1
    have := c.2.1
    have := c.2.2.1
    exact ⟨by show g ≤ endOf y.2.2 l; omega, ih.2⟩
theorem chain_flat {row : Row} : ∀ {l : List Pos} {g : Nat}, Chain row g l → ((l.map (partOf row)).flatMap fun y => y.1 ++ y.2).length + g = endOf g l
  | [], g, _ => by show 0 + g = g; omega
  | y :: l, g, c => by
    have ih := chain_flat (l := l) c.2.2.2.2
    obtain ⟨c1, c2, c3, c4, c5⟩ := c
    rw [List.map_cons, List.flatMap_cons, List.length_append, List.length_append]
    have e1 : (partOf row y).1.length = y.2.1 - y.1 := sl_len (by omega)
    have e2 : (partOf row y).2.length = y.2.2 - y.2.1 := sl_len (by omega)
    rw [e1, e2]
    show _ = endOf y.2.2 l
    omega
theorem chain_take {row : Row} : ∀ {l : List Pos} {g k : Nat}, Chain row g l → Chain row g (l.take k)
  | [], g, k, _ => by rw [List.take_nil]; trivial
  | y :: l, g, 0, _ => trivial
  | y :: l, g, k + 1, c => ⟨c.1, c.2.1, c.2.2.1, c.2.2.2.1, chain_take c.2.2.2.2⟩
/-- **where the k-th segment stands** -/
theorem ends_pos {R : Rules} {row : Row} {k : Nat} {x : Pos} (h : (posOf R row)[k]? = some x) : endsOf (parted R row) k = x.2 := by
  have c := (chain_row R row).1
  have g := chain_get c h
  have f := chain_flat (chain_take (k := k) c)
  rw [parted_eq]
  unfold endsOf
  dsimp only
  rw [← List.map_take, List.getElem?_map, h]
  dsimp only [Option.map_some, Option.getD_some]
  have e1 : (partOf row x).1.length = x.2.1 - x.1 := sl_len (by omega)
  have e2 : (partOf row x).2.length = x.2.2 - x.2.1 := sl_len (by omega)
  rw [e1, e2]
  have q1 : (List.flatMap (fun y => y.fst ++ y.snd) (List.map (partOf row) (List.take k (posOf R row)))).length + (x.2.1 - x.1) = x.2.1 := by omega
  rw [q1]
  have q2 : x.2.1 + (x.2.2 - x.2.1) = x.2.2 := by omega
  rw [q2]
theorem parted_get {R : Rules} {row : Row} {k : Nat} : (parted R row).1[k]? = (posOf R row)[k]?.map (partOf row) := by
  rw [parted_eq, List.getElem?_map]
/-- **the k-th glue** -/
theorem endOf_snoc : ∀ (l : List Pos) (g : Nat) (x : Pos), endOf g (l ++ [x]) = x.2.2
  | [], _, _ => rfl
  | y :: l, g, x => endOf_snoc l y.2.2 x
theorem glues_pos (R : Rules) (row : Row) (k : Nat) : (gluesOf R row)[k]? = if k ≤ (posOf R row).length then
    some (sl row (endOf 0 ((posOf R row).take k)) (((posOf R row)[k]?.map fun x => x.2.1).getD row.length)) else none := by
  have c := chain_row R row
  unfold gluesOf
  rw [parted_eq]
  dsimp only
  rw [List.map_map]
  by_cases h : k < (posOf R row).length
  · rw [if_pos (by omega), List.getElem?_append_left (by rw [List.length_map]; exact h), List.getElem?_map, List.getElem?_eq_getElem h]
    have g := chain_get c.1 (List.getElem?_eq_getElem h)
    show some (sl row _ _) = some (sl row _ _)
    rw [g.1]
    rfl
  · by_cases h2 : k = (posOf R row).length
    · subst h2
      rw [if_pos (Nat.le_refl _), List.getElem?_append_right (by rw [List.length_map]; exact Nat.le_refl _), List.length_map, Nat.sub_self, List.take_length, List.getElem?_eq_none (Nat.le_refl _), c.2]
      rfl
    · rw [if_neg (by omega), List.getElem?_eq_none]
      rw [List.length_append, List.length_map, List.length_singleton]
      omega
end Sm
/-! ## A character's bytes again -/
namespace Sm
open Fh
theorem mayBe_ends {n v : Nat} (h : mayBe n n v = true) : leastOf n ≤ v ∧ v ≤ mostOf n := by
  refine ⟨?_, mayBe_end h⟩
  unfold mayBe at h
  rw [Nat.sub_self, Nat.pow_zero, Nat.mul_one, decide_eq_true_eq] at h
  have h2 : ∀ c, c ≤ nextChar c := by
    intro c
    unfold nextChar
    split
    · omega
    · split
      · omega
      · split
        · omega
        · split
          · omega
          · omega
  have h3 := h2 (max v (leastOf n))
  omega
theorem goOn_step {f n k v w : Nat} {b : Bytes} (hk : k ≠ n) (h : goOn (f + 1) n k v b = .ok w) : ∃ c r, b = c :: r ∧ c.toNat / 64 = 2 ∧ mayBe n (k + 1) (v * 64 + c.toNat % 64) = true ∧ goOn f n (k + 1) (v * 64 + c.toNat % 64) r = .ok w := by
  cases b with
  | nil => rw [goOn_nil hk] at h; cases h
  | cons c r =>
    by_cases y : c.toNat / 64 = 2 ∧ mayBe n (k + 1) (v * 64 + c.toNat % 64) = true
    · rw [goOn_yes hk y] at h
      exact ⟨c, r, rfl, y.1, y.2, h⟩
    · rw [goOn_no hk y] at h; cases h
theorem of_byte {n : Nat} {c : UInt8} (h : n = c.toNat) : UInt8.ofNat n = c := by
  subst h
  exact UInt8.ofNat_toNat
theorem utf8_here {b : Bytes} {x : Nat × Nat} (h : charHere b = .ok x) : ∃ r, b = utf8 x.1 ++ r ∧ x.2 = (utf8 x.1).length ∧ 1 ≤ x.2 := by
  cases b with
  | nil => cases h
  | cons c r =>
    rw [charHere] at h
    have hc := byte_lt c
    by_cases e : lengthBy c.toNat = 0 ∨ mayBe (lengthBy c.toNat) 1 (headOf (lengthBy c.toNat) c.toNat) = false
    · rw [if_pos e] at h; cases h
    · rw [if_neg e] at h
      rw [not_or] at e
      have e2 : mayBe (lengthBy c.toNat) 1 (headOf (lengthBy c.toNat) c.toNat) = true := by
        cases z : mayBe (lengthBy c.toNat) 1 (headOf (lengthBy c.toNat) c.toNat) with
        | true => rfl
        | false => exact absurd z e.2
      cases g : goOn 4 (lengthBy c.toNat) 1 (headOf (lengthBy c.toNat) c.toNat) r with
      | error k => rw [g] at h; cases h
      | ok w =>
        rw [g] at h
        cases h
        dsimp only
        have e0 := e.1
        clear e
        have lb : (c.toNat < 128 ∧ lengthBy c.toNat = 1) ∨ (192 ≤ c.toNat ∧ c.toNat < 224 ∧ lengthBy c.toNat = 2) ∨ (224 ≤ c.toNat ∧ c.toNat < 240 ∧ lengthBy c.toNat = 3) ∨ (240 ≤ c.toNat ∧ c.toNat < 248 ∧ lengthBy c.toNat = 4) := by
          unfold lengthBy at e0 ⊢
          by_cases h1 : c.toNat < 0x80
          · rw [if_pos h1]; omega
          · rw [if_neg h1] at e0 ⊢
            by_cases h2 : c.toNat < 0xC0
            · rw [if_pos h2] at e0; omega
            · rw [if_neg h2] at e0 ⊢
              by_cases h3 : c.toNat < 0xE0
              · rw [if_pos h3]; omega
              · rw [if_neg h3] at e0 ⊢
                by_cases h4 : c.toNat < 0xF0
                · rw [if_pos h4]; omega
                · rw [if_neg h4] at e0 ⊢
                  by_cases h5 : c.toNat < 0xF8
                  · rw [if_pos h5]; omega
                  · rw [if_neg h5] at e0; omega
        rcases lb with ⟨l1, e1⟩ | ⟨l1, l2, e1⟩ | ⟨l1, l2, e1⟩ | ⟨l1, l2, e1⟩
        · rw [e1] at g ⊢
          have g : goOn 4 1 1 c.toNat r = .ok w := g
          rw [goOn_done] at g
          cases g
          refine ⟨r, ?_, ?_, Nat.le_refl _⟩
          · unfold utf8
            rw [if_pos (by omega), of_byte rfl]; rfl
          · unfold utf8
            rw [if_pos (by omega)]; rfl
        · rw [e1] at g ⊢
          have g : goOn 4 2 1 (c.toNat % 32) r = .ok w := g
          obtain ⟨d, r2, rfl, hd, m2, g⟩ := goOn_step (by decide) g
          rw [goOn_done] at g
          cases g
          have hd2 := byte_lt d
          have q := mayBe_ends m2
          have q : 0x80 ≤ c.toNat % 32 * 64 + d.toNat % 64 ∧ c.toNat % 32 * 64 + d.toNat % 64 ≤ 0x7FF := q
          have eu : utf8 (c.toNat % 32 * 64 + d.toNat % 64) = [c, d] := by
            unfold utf8
            rw [if_neg (by omega), if_pos (by omega), of_byte (c := c) (by omega), of_byte (c := d) (by omega)]
          rw [eu]
          exact ⟨r2, rfl, rfl, by decide⟩
        · rw [e1] at g ⊢
          have g : goOn 4 3 1 (c.toNat % 16) r = .ok w := g
          obtain ⟨d, r2, rfl, hd, m2, g⟩ := goOn_step (by decide) g
          obtain ⟨d3, r3, rfl, hd3, m3, g⟩ := goOn_step (by decide) g
          rw [goOn_done] at g
          cases g
          have hd2 := byte_lt d
          have hd4 := byte_lt d3
          have q := mayBe_ends m3
          have q : 0x800 ≤ (c.toNat % 16 * 64 + d.toNat % 64) * 64 + d3.toNat % 64 ∧ (c.toNat % 16 * 64 + d.toNat % 64) * 64 + d3.toNat % 64 ≤ 0xFFFF := q
          have eu : utf8 ((c.toNat % 16 * 64 + d.toNat % 64) * 64 + d3.toNat % 64) = [c, d, d3] := by
            unfold utf8
            rw [if_neg (by omega), if_neg (by omega), if_pos (by omega), of_byte (c := c) (by omega), of_byte (c := d) (by omega), of_byte (c := d3) (by omega)]
          rw [eu]
          exact ⟨r3, rfl, rfl, by decide⟩
        · rw [e1] at g ⊢
          have g : goOn 4 4 1 (c.toNat % 8) r = .ok w := g
          obtain ⟨d, r2, rfl, hd, m2, g⟩ := goOn_step (by decide) g
          obtain ⟨d3, r3, rfl, hd3, m3, g⟩ := goOn_step (by decide) g
          obtain ⟨d5, r5, rfl, hd5, m5, g⟩ := goOn_step (by decide) g
          rw [show goOn 1 4 (1 + 1 + 1 + 1) _ r5 = .ok _ from goOn_done] at g
          cases g
          have hd2 := byte_lt d
          have hd4 := byte_lt d3
          have hd6 := byte_lt d5
          have q := mayBe_ends m5
          have q : 0x10000 ≤ ((c.toNat % 8 * 64 + d.toNat % 64) * 64 + d3.toNat % 64) * 64 + d5.toNat % 64 ∧ ((c.toNat % 8 * 64 + d.toNat % 64) * 64 + d3.toNat % 64) * 64 + d5.toNat % 64 ≤ 0x10FFFF := q
          have eu : utf8 (((c.toNat % 8 * 64 + d.toNat % 64) * 64 + d3.toNat % 64) * 64 + d5.toNat % 64) = [c, d, d3, d5] := by
            unfold utf8
            rw [if_neg (by omega), if_neg (by omega), if_neg (by omega), of_byte (c := c) (by omega), of_byte (c := d) (by omega), of_byte (c := d3) (by omega), of_byte (c := d5) (by omega)]
          rw [eu]
          exact ⟨r5, rfl, rfl, by decide⟩
theorem charsFrom_text : ∀ (f p : Nat) (l : List Nat) (b : Bytes) (t : List Nat), charsFrom f p l b = .ok t → t.flatMap utf8 = l.reverse.flatMap utf8 ++ b
  | f, p, l, [], t, h => by
    have h : Except.ok l.reverse = (Except.ok t : Except Nat (List Nat)) := by cases f <;> exact h
    cases h
    rw [List.append_nil]
  | 0, p, l, c :: b, t, h => by cases h
  | f + 1, p, l, c :: b, t, h => by
    rw [charsFrom] at h
    cases g : charHere (c :: b) with
    | error k => rw [g] at h; cases h
    | ok y =>
      rw [g] at h
      have ih := charsFrom_text f _ _ _ t h
      obtain ⟨r, e1, e2, e3⟩ := utf8_here g
      rw [ih, List.reverse_cons, List.flatMap_append, List.append_assoc, e2]
      have q : (c :: b).drop (utf8 y.1).length = r := by rw [e1]; exact List.drop_left ..
      rw [q, List.flatMap_singleton, e1]
/-- **characters' text** -/
theorem chars_text {b : Bytes} {t : List Nat} (h : charsRead b = .ok t) : t.flatMap utf8 = b := charsFrom_text _ _ _ _ _ h
theorem utf8_1 {c : Nat} (h : c < 128) : utf8 c = [UInt8.ofNat c] := by
  unfold utf8
  rw [if_pos (by omega)]
theorem utf8_2 {c : Nat} (h1 : ¬ c < 128) (h2 : c < 2048) : utf8 c = [UInt8.ofNat (0xC0 + c / 64), UInt8.ofNat (0x80 + c % 64)] := by
  unfold utf8
  rw [if_neg (by omega), if_pos (by omega)]
theorem utf8_3 {c : Nat} (h1 : ¬ c < 2048) (h2 : c < 65536) : utf8 c = [UInt8.ofNat (0xE0 + c / 4096), UInt8.ofNat (0x80 + c / 64 % 64), UInt8.ofNat (0x80 + c % 64)] := by
  unfold utf8
  rw [if_neg (by omega), if_neg (by omega), if_pos (by omega)]
theorem utf8_4 {c : Nat} (h1 : ¬ c < 65536) : utf8 c = [UInt8.ofNat (0xF0 + c / 262144), UInt8.ofNat (0x80 + c / 4096 % 64), UInt8.ofNat (0x80 + c / 64 % 64), UInt8.ofNat (0x80 + c % 64)] := by
  unfold utf8
  rw [if_neg (by omega), if_neg (by omega), if_neg (by omega)]
end Sm
/-! ## Documents -/
namespace Sm
open Fh FhSegs
/-- how many bytes of a line stand ahead of its end -/
def lineN (r : Bytes) : Nat := (r.takeWhile fun (y : UInt8) => y != 10).length
theorem lineN_le (r : Bytes) : lineN r ≤ r.length := (List.takeWhile_sublist _).length_le
theorem take_lineN (r : Bytes) : r.takeWhile (fun (y : UInt8) => y != 10) = r.take (lineN r) := by
  unfold lineN
  induction r with
  | nil => rfl
  | cons c r ih =>
    by_cases h : (c != 10) = true
    · rw [List.takeWhile_cons_of_pos (p := fun (y : UInt8) => y != 10) h, List.length_cons, List.take_succ_cons, ← ih]
    · rw [List.takeWhile_cons_of_neg (p := fun (y : UInt8) => y != 10) h]; rfl
/-- the fault of a line that shows ahead of its reading -/
def earlyF (n at_ : Nat) (r : Bytes) : Option Nat := match r with
  | [] => none
  | c :: _ => if LINES ≤ n ∨ lineN r = 0 ∨ ¬ (c.toNat = 124 ∨ c.toNat = 62) then some at_ else if lineN r = r.length then some (at_ + lineN r) else none
theorem byte124 {c : UInt8} : c = 124 ↔ c.toNat = 124 := ⟨fun h => by rw [h]; rfl, fun h => UInt8.toNat_inj.mp h⟩
theorem byte62 {c : UInt8} : c = 62 ↔ c.toNat = 62 := ⟨fun h => by rw [h]; rfl, fun h => UInt8.toNat_inj.mp h⟩
theorem lineRead_other {at_ : Nat} {c : UInt8} {b : Bytes} (h : ¬ (c.toNat = 124 ∨ c.toNat = 62)) : lineRead at_ (c :: b) = .error (1, at_) := by
  rw [lineRead.eq_def]
  dsimp only
  rw [if_neg (fun z => h (Or.inl (byte124.mp z))), if_neg (fun z => h (Or.inr (byte62.mp z)))]
theorem lineN_zero {c : UInt8} {r : Bytes} (h : lineN (c :: r) = 0) : c.toNat = 10 := by
  unfold lineN at h
  by_cases h1 : (c != 10) = true
  · rw [List.takeWhile_cons_of_pos (p := fun (y : UInt8) => y != 10) h1, List.length_cons] at h
    omega
  · have h2 : c = 10 := by
      cases z : (c != 10) with
      | true => exact absurd z h1
      | false => simpa using z
    rw [h2]; rfl
theorem doc_early {f at_ n : Nat} {d : Document} {r : Bytes} {p : Nat} (h : earlyF n at_ r = some p) : ∃ k, docFrom (f + 1) at_ n d r = .error (k, p) := by
  cases r with
  | nil => cases h
  | cons c b =>
    rw [docFrom.eq_def]
    unfold earlyF at h
    dsimp only at h ⊢
    by_cases h1 : LINES ≤ n
    · rw [if_pos (Or.inl h1)] at h
      cases h
      rw [if_pos h1]
      exact ⟨_, rfl⟩
    · rw [if_neg h1]
      have e1 : ((c :: b).takeWhile fun (y : UInt8) => y != 10).length = lineN (c :: b) := rfl
      have et := take_lineN (c :: b)
      rw [et]
      have el : ((c :: b).take (lineN (c :: b))).length = lineN (c :: b) := by rw [List.length_take, Nat.min_eq_left (lineN_le _)]
      rw [el]
      by_cases h2 : lineN (c :: b) = 0
      · rw [if_pos (Or.inr (Or.inl h2))] at h
        cases h
        rw [h2]
        rw [if_neg (by rw [List.length_cons]; omega)]
        exact ⟨_, rfl⟩
      · by_cases h3 : c.toNat = 124 ∨ c.toNat = 62
        · rw [if_neg (fun z => z.elim h1 (fun z => z.elim h2 (fun z => z h3)))] at h
          by_cases h4 : lineN (c :: b) = (c :: b).length
          · rw [if_pos h4] at h
            cases h
            rw [if_pos h4]
            rw [if_pos (h3.imp byte124.mpr byte62.mpr)]
            exact ⟨_, rfl⟩
          · rw [if_neg h4] at h; cases h
        · rw [if_pos (Or.inr (Or.inr h3))] at h
          cases h
          by_cases h4 : lineN (c :: b) = (c :: b).length
          · rw [if_pos h4, if_neg (fun z => h3 (z.imp byte124.mp byte62.mp))]
            exact ⟨_, rfl⟩
          · rw [if_neg h4]
            obtain ⟨m, hm⟩ : ∃ m, lineN (c :: b) = m + 1 := ⟨lineN (c :: b) - 1, by omega⟩
            rw [hm, List.take_succ_cons, lineRead_other h3]
            exact ⟨_, rfl⟩
theorem doc_late {f at_ n : Nat} {d : Document} {r : Bytes} (hr : r ≠ []) (h : earlyF n at_ r = none) : (∃ c b, r.take (lineN r) = c :: b ∧ (c.toNat = 124 ∨ c.toNat = 62)) ∧ lineN r < r.length ∧
    docFrom (f + 1) at_ n d r = match lineRead at_ (r.take (lineN r)) with | .error e => .error e | .ok l => docFrom f (at_ + lineN r + 1) (n + 1) (l :: d) (r.drop (lineN r + 1)) := by
  cases r with
  | nil => exact absurd rfl hr
  | cons c b =>
    unfold earlyF at h
    dsimp only at h
    by_cases h0 : LINES ≤ n ∨ lineN (c :: b) = 0 ∨ ¬ (c.toNat = 124 ∨ c.toNat = 62)
    · rw [if_pos h0] at h; cases h
    · rw [if_neg h0] at h
      rw [not_or, not_or, Classical.not_not] at h0
      obtain ⟨h1, h2, h3⟩ := h0
      by_cases h4 : lineN (c :: b) = (c :: b).length
      · rw [if_pos h4] at h; cases h
      · have hle := lineN_le (c :: b)
        refine ⟨?_, by omega, ?_⟩
        · obtain ⟨m, hm⟩ : ∃ m, lineN (c :: b) = m + 1 := ⟨lineN (c :: b) - 1, by omega⟩
          rw [hm, List.take_succ_cons]
          exact ⟨c, _, rfl, h3⟩
        · rw [docFrom.eq_def]
          dsimp only
          have et := take_lineN (c :: b)
          rw [et]
          have el : ((c :: b).take (lineN (c :: b))).length = lineN (c :: b) := by rw [List.length_take, Nat.min_eq_left (lineN_le _)]
          rw [el, if_neg h1, if_neg h4]
          all_goals rfl
theorem doc_nil {f at_ n : Nat} {d : Document} : docFrom f at_ n d [] = .ok d.reverse := by cases f <;> rfl
/-- the fault's place alone -/
def docE (x : Except Bad Document) : Except Nat Document := match x with
  | .error e => .error e.2
  | .ok d => .ok d
/-! ### what lines that were read keep -/
theorem rowFrom_len : ∀ (f p : Nat) (l : Row) (b : Bytes) (x : Row), rowFrom f p l b = .ok x → x.length ≤ l.length + b.length
  | f, p, l, [], x, h => by
    have h : Except.ok l.reverse = (Except.ok x : Except Nat Row) := by cases f <;> exact h
    cases h
    rw [List.length_reverse]; exact Nat.le_add_right _ _
  | 0, p, l, c :: b, x, h => by cases h
  | f + 1, p, l, c :: b, x, h => by
    rw [rowFrom] at h
    cases g : pieceHere (c :: b) with
    | error k => rw [g] at h; cases h
    | ok y =>
      rw [g] at h
      have ih := rowFrom_len f _ _ _ x h
      have q := piece_pos g
      rw [List.length_cons, List.length_drop] at ih
      omega
theorem row_len {b : Bytes} {x : Row} (h : rowRead b = .ok x) : x.length ≤ b.length := by
  have := rowFrom_len _ _ _ _ _ h
  rw [List.length_nil] at this
  omega
def okL : Line → Prop
  | .raw t => t.length ≤ 4096
  | .para r => r.length ≤ 4096 ∧ (∀ q ∈ r, goodP q) ∧ paired r = true
def sizeL : Line → Nat
  | .raw _ => 0
  | .para r => r.length
theorem line_ok {at_ : Nat} {b : Bytes} {l : Line} (h : lineRead at_ b = .ok l) : okL l ∧ sizeL l ≤ b.length ∧ ((∃ t, l = .raw t ∧ b = 124 :: t.flatMap utf8) ∨ ∃ r c, l = .para r ∧ b = 62 :: c ∧ rowRead c = .ok r) := by
  rw [lineRead.eq_def] at h
  cases b with
  | nil => cases h
  | cons c b =>
    dsimp only at h
    by_cases h1 : c = 124
    · rw [if_pos h1] at h
      cases g : charsRead b with
      | error k => rw [g] at h; cases h
      | ok t =>
        rw [g] at h
        dsimp only at h
        by_cases h2 : PIECES < t.length
        · rw [if_pos h2] at h; cases h
        · rw [if_neg h2] at h
          cases h
          have h2' : ¬ 4096 < t.length := h2
          exact ⟨by show t.length ≤ 4096; omega, Nat.zero_le _, Or.inl ⟨t, rfl, by rw [h1, chars_text g]⟩⟩
    · rw [if_neg h1] at h
      by_cases h2 : c = 62
      · rw [if_pos h2] at h
        cases g : rowRead b with
        | error k => rw [g] at h; cases h
        | ok r =>
          rw [g] at h
          dsimp only at h
          by_cases h3 : PIECES < r.length ∨ ROWTEXT < b.length
          · rw [if_pos h3] at h; cases h
          · rw [if_neg h3] at h
            by_cases h4 : paired r = false
            · rw [if_pos h4] at h; cases h
            · rw [if_neg h4] at h
              cases h
              rw [not_or] at h3
              have h5 : ¬ 4096 < r.length := h3.1
              have h6 : paired r = true := by
                cases z : paired r with
                | true => rfl
                | false => exact absurd z h4
              refine ⟨⟨by omega, row_good g, h6⟩, ?_, Or.inr ⟨r, b, rfl, by rw [h2], g⟩⟩
              have := row_len g
              show r.length ≤ _
              rw [List.length_cons]; omega
      · rw [if_neg h2] at h; cases h
def sizeD (d : Document) : Nat := (d.map sizeL).sum
theorem docFrom_ok : ∀ (f at_ n : Nat) (d : Document) (b : Bytes) (x : Document), docFrom f at_ n d b = .ok x → (∀ l ∈ d, okL l) → (∀ l ∈ x, okL l) ∧ sizeD x ≤ sizeD d.reverse + b.length
  | f, at_, n, d, [], x, h, hd => by
    rw [doc_nil] at h
    cases h
    exact ⟨fun l hl => hd l (List.mem_reverse.mp hl), Nat.le_add_right _ _⟩
  | 0, at_, n, d, c :: b, x, h, hd => by cases h
  | f + 1, at_, n, d, c :: b, x, h, hd => by
    cases e : earlyF n at_ (c :: b) with
    | some p =>
      obtain ⟨k, hk⟩ := doc_early (f := f) (d := d) e
      rw [hk] at h; cases h
    | none =>
      obtain ⟨_, hl, h2⟩ := doc_late (f := f) (d := d) (by intro z; cases z) e
      rw [h2] at h
      cases g : lineRead at_ ((c :: b).take (lineN (c :: b))) with
      | error e => rw [g] at h; cases h
      | ok l =>
        rw [g] at h
        have k := line_ok g
        have ih := docFrom_ok f _ _ _ _ x h (fun y hy => by
          rcases List.mem_cons.mp hy with rfl | hy
          · exact k.1
          · exact hd y hy)
        refine ⟨ih.1, ?_⟩
        have h3 := ih.2
        unfold sizeD at h3 ⊢
        rw [List.reverse_cons, List.map_append, List.sum_append_nat, List.length_drop] at h3
        have h4 := k.2.1
        rw [List.length_take] at h4
        have h5 : (List.map sizeL [l]).sum = sizeL l := by show sizeL l + 0 = _; omega
        omega
theorem doc_ok {b : Bytes} {x : Document} (h : docRead b = .ok x) : (∀ l ∈ x, okL l) ∧ sizeD x ≤ b.length := by
  have q := docFrom_ok _ _ _ _ _ _ h (fun l hl => nomatch hl)
  have e : sizeD ([] : Document).reverse = 0 := rfl
  exact ⟨q.1, by omega⟩
/-! ### the segments of a document -/
abbrev Seg := Nat × Nat × Nat × Row
def segP (n : Nat) (r : Row) (x : Pos) : Seg := (n, x.2.1, x.2.2, sl r x.2.1 x.2.2)
def docSegs (R : Rules) : Nat → Document → List Seg
  | _, [] => []
  | n, .raw _ :: d => docSegs R (n + 1) d
  | n, .para r :: d => (posOf R r).map (segP n r) ++ docSegs R (n + 1) d
theorem chain_len {row : Row} : ∀ {l : List Pos} {g : Nat}, Chain row g l → g + l.length ≤ endOf g l
  | [], g, _ => Nat.le_refl _
  | x :: l, g, c => by
    have ih := chain_len (l := l) c.2.2.2.2
    obtain ⟨c1, c2, c3, c4, c5⟩ := c
    show g + (l.length + 1) ≤ endOf x.2.2 l
    omega
theorem pos_few (R : Rules) (row : Row) : (posOf R row).length ≤ row.length := by
  have c := (chain_row R row).1
  have h1 := chain_len c
  have h2 := endOf_le c (Nat.zero_le _)
  omega
theorem docSegs_few (R : Rules) : ∀ (d : Document) (n : Nat), (docSegs R n d).length ≤ sizeD d
  | [], n => Nat.le_refl _
  | .raw t :: d, n => by
    have ih := docSegs_few R d (n + 1)
    show (docSegs R (n + 1) d).length ≤ sizeL (.raw t) + sizeD d
    exact Nat.le_trans ih (Nat.le_add_left _ _)
  | .para r :: d, n => by
    have ih := docSegs_few R d (n + 1)
    have := pos_few R r
    show ((posOf R r).map (segP n r) ++ docSegs R (n + 1) d).length ≤ r.length + sizeD d
    rw [List.length_append, List.length_map]
    omega
theorem docSegs_app (R : Rules) : ∀ (d e : Document) (n : Nat), docSegs R n (d ++ e) = docSegs R n d ++ docSegs R (n + d.length) e
  | [], e, n => rfl
  | .raw t :: d, e, n => by
    show docSegs R (n + 1) (d ++ e) = docSegs R (n + 1) d ++ _
    rw [docSegs_app R d e (n + 1), List.length_cons]
    congr 2
    omega
  | .para r :: d, e, n => by
    show (posOf R r).map (segP n r) ++ docSegs R (n + 1) (d ++ e) = ((posOf R r).map (segP n r) ++ docSegs R (n + 1) d) ++ _
    rw [docSegs_app R d e (n + 1), List.length_cons, List.append_assoc]
    congr 3
    omega
theorem segs_rows (R : Rules) : ∀ (d : Document) (n : Nat), (segsFrom R n d).map (fun y => y.2.2) = (docSegs R n d).map fun z => z.2.2.2
  | [], n => rfl
  | .raw t :: d, n => segs_rows R d (n + 1)
  | .para r :: d, n => by
    show (((segsOf R r).zipIdx.map fun x => (n, x.2, x.1)) ++ segsFrom R (n + 1) d).map _ = ((posOf R r).map (segP n r) ++ docSegs R (n + 1) d).map _
    rw [List.map_append, List.map_append, segs_rows R d (n + 1)]
    congr 1
    rw [List.map_map, List.map_map]
    have e1 : ((fun y : Nat × Nat × Row => y.2.2) ∘ fun x : Row × Nat => (n, x.2, x.1)) = Prod.fst := rfl
    rw [e1]
    unfold segsOf
    rw [parted_eq, List.zipIdx_map_fst, List.map_map]
    rfl
def segRel (R : Rules) (n : Nat) (d : Document) (y : Nat × Nat × Row) (z : Seg) : Prop := y.1 = z.1 ∧ y.2.2 = z.2.2.2 ∧ n ≤ y.1 ∧ ∃ r, d[y.1 - n]? = some (.para r) ∧ endsOf (parted R r) y.2.1 = (z.2.1, z.2.2.1)
theorem segs_rel (R : Rules) : ∀ (d : Document) (n k : Nat), ((segsFrom R n d)[k]? = none ∧ (docSegs R n d)[k]? = none) ∨ ∃ y z, (segsFrom R n d)[k]? = some y ∧ (docSegs R n d)[k]? = some z ∧ segRel R n d y z
  | [], n, k => Or.inl ⟨by rfl, by rfl⟩
  | .raw t :: d, n, k => by
    rcases segs_rel R d (n + 1) k with h | ⟨y, z, h1, h2, e1, e2, e3, r, e4, e5⟩
    · exact Or.inl h
    · refine Or.inr ⟨y, z, h1, h2, e1, e2, by omega, r, ?_, e5⟩
      have q : y.1 - n = y.1 - (n + 1) + 1 := by omega
      rw [q]
      exact e4
  | .para r :: d, n, k => by
    have e0 : segsFrom R n (.para r :: d) = ((segsOf R r).zipIdx.map fun x => (n, x.2, x.1)) ++ segsFrom R (n + 1) d := rfl
    have e1 : docSegs R n (.para r :: d) = (posOf R r).map (segP n r) ++ docSegs R (n + 1) d := rfl
    have hl : ((segsOf R r).zipIdx.map fun x => (n, x.2, x.1)).length = (posOf R r).length := by
      unfold segsOf
      rw [parted_eq, List.length_map, List.length_zipIdx, List.length_map, List.length_map]
    have hl2 : ((posOf R r).map (segP n r)).length = (posOf R r).length := List.length_map ..
    rw [e0, e1]
    by_cases h : k < (posOf R r).length
    · rw [List.getElem?_append_left (by omega), List.getElem?_append_left (by omega)]
      refine Or.inr ⟨(n, k, (partOf r (posOf R r)[k]).2), segP n r (posOf R r)[k], ?_, ?_, rfl, rfl, Nat.le_refl _, r, ?_, ?_⟩
      · unfold segsOf
        rw [parted_eq, List.getElem?_map, List.getElem?_zipIdx, List.getElem?_map, List.getElem?_map, List.getElem?_eq_getElem h]
        show some (n, 0 + k, _) = _
        rw [Nat.zero_add]
      · rw [List.getElem?_map, List.getElem?_eq_getElem h]; rfl
      · show (Line.para r :: d)[n - n]? = _
        rw [Nat.sub_self]; rfl
      · exact ends_pos (List.getElem?_eq_getElem h)
    · rw [List.getElem?_append_right (by omega), List.getElem?_append_right (by omega), hl, hl2]
      rcases segs_rel R d (n + 1) (k - (posOf R r).length) with h | ⟨y, z, h1, h2, e1, e2, e3, r2, e4, e5⟩
      · exact Or.inl h
      · refine Or.inr ⟨y, z, h1, h2, e1, e2, by omega, r2, ?_, e5⟩
        have q : y.1 - n = y.1 - (n + 1) + 1 := by omega
        rw [q]
        exact e4
end Sm
/-! ## Words, forms -/
namespace Sm
open Fh FhSegs
def hereM : Piece → Bool
  | .char c => isWordChar c
  | _ => false
def wordsM : Bool → Row → Nat
  | _, [] => 0
  | w, p :: r => (if (hereM p && !w) = true then 1 else 0) + wordsM (hereM p) r
def isW (u : Unit_) : Bool := match u with
  | .word _ => true
  | _ => false
theorem units_nil (r : Row) (h : ((unitsFrom [] r).filter isW).length = (if ([] : List Nat) = [] then 0 else 1) + wordsM (decide (([] : List Nat) ≠ [])) r) : ((unitsFrom [] r).filter isW).length = wordsM false r := by
  rw [h]
  show 0 + wordsM false r = _
  omega
theorem words_here {p : Piece} (b : Bool) (r : Row) (h : hereM p = false) : wordsM b (p :: r) = wordsM false r := by
  rw [wordsM, h, Bool.false_and, if_neg (by decide), Nat.zero_add]
theorem words_units : ∀ (r : Row) (w : List Nat), ((unitsFrom w r).filter isW).length = (if w = [] then 0 else 1) + wordsM (decide (w ≠ [])) r
  | [], w => by
    rw [unitsFrom]
    by_cases h : w = []
    · rw [if_pos h, if_pos h]; rfl
    · rw [if_neg h, if_neg h]; rfl
  | p :: r, w => by
    have dn : ((if w = [] then [] else [.word w] : List Unit_).filter isW).length = if w = [] then 0 else 1 := by
      by_cases h : w = []
      · rw [if_pos h, if_pos h]; rfl
      · rw [if_neg h, if_neg h]; rfl
    have un := units_nil r (words_units r [])
    cases p with
    | char c =>
      rw [unitsFrom]
      try dsimp only
      by_cases hc : isWordChar c = true
      · rw [if_pos hc, words_units r (w ++ [c])]
        have hne : w ++ [c] ≠ [] := by intro z; have := congrArg List.length z; rw [List.length_append] at this; cases this
        rw [if_neg hne, decide_eq_true hne]
        have e : wordsM (decide (w ≠ [])) (.char c :: r) = (if (true && !decide (w ≠ [])) = true then 1 else 0) + wordsM true r := by
          show ((if (isWordChar c && !decide (w ≠ [])) = true then 1 else 0) + wordsM (isWordChar c) r) = _
          rw [hc]
        rw [e]
        by_cases h : w = []
        · subst h; show 1 + _ = 0 + (1 + _); omega
        · rw [if_neg h, decide_eq_true h]; show 1 + _ = 1 + (0 + _); omega
      · have hc2 : isWordChar c = false := by
          cases z : isWordChar c with
          | true => exact absurd z hc
          | false => rfl
        have e1 : ((if c = BLANK then [] else [.sign c] : List Unit_).filter isW).length = 0 := by
          by_cases h : c = BLANK
          · rw [if_pos h]; rfl
          · rw [if_neg h]; rfl
        rw [if_neg hc, List.filter_append, List.length_append, dn, List.filter_append, List.length_append, un, e1, words_here (p := .char c) _ _ hc2]
        omega
    | open_ n =>
      rw [unitsFrom]
      try dsimp only
      rw [List.filter_append, List.length_append, dn, List.filter_cons_of_neg (show ¬ isW (.tag 0 n) = true from fun z => by cases z), un, words_here _ _ rfl]
    | close n =>
      rw [unitsFrom]
      try dsimp only
      rw [List.filter_append, List.length_append, dn, List.filter_cons_of_neg (show ¬ isW (.tag 1 n) = true from fun z => by cases z), un, words_here _ _ rfl]
    | alone n =>
      rw [unitsFrom]
      try dsimp only
      rw [List.filter_append, List.length_append, dn, List.filter_cons_of_neg (show ¬ isW (.tag 2 n) = true from fun z => by cases z), un, words_here _ _ rfl]
theorem here_renamed (f : Nat → Nat) (p : Piece) : hereM (p.renamed f) = hereM p := by cases p <;> rfl
theorem words_renamed (f : Nat → Nat) : ∀ (r : Row) (w : Bool), wordsM w (r.map (Piece.renamed f)) = wordsM w r
  | [], w => rfl
  | p :: r, w => by
    rw [List.map_cons, wordsM, wordsM, here_renamed, words_renamed f r]
theorem wordsIn_eq (r : Row) : wordsIn r = wordsM false r := by
  unfold wordsIn units formOf
  have h := words_units (r.map (Piece.renamed (placeOf (numbersOf r [])))) []
  rw [words_renamed] at h
  rw [if_pos rfl, Nat.zero_add] at h
  refine Eq.trans ?_ h
  congr 2
/-! ### forms -/
def nameM (l : List Nat) (p : Piece) : List Nat := if p.isTag = true ∧ l.contains p.number = false then l ++ [p.number] else l
def formL : List Nat → Row → Row
  | _, [] => []
  | l, p :: r => p.renamed (placeOf (nameM l p)) :: formL (nameM l p) r
theorem numbers_more : ∀ (r : Row) (l : List Nat), ∃ m, numbersOf r l = l ++ m
  | [], l => ⟨[], (List.append_nil l).symm⟩
  | p :: r, l => by
    obtain ⟨m, hm⟩ := numbers_more r (nameM l p)
    have e : numbersOf (p :: r) l = numbersOf r (nameM l p) := rfl
    rw [e, hm]
    unfold nameM
    by_cases h : p.isTag = true ∧ l.contains p.number = false
    · rw [if_pos h]; exact ⟨[p.number] ++ m, List.append_assoc ..⟩
    · rw [if_neg h]; exact ⟨m, rfl⟩
theorem place_more {l m : List Nat} {n : Nat} (h : n ∈ l) : placeOf (l ++ m) n = placeOf l n := by
  unfold placeOf
  rw [List.idxOf_append, if_pos h]
theorem name_has {l : List Nat} {p : Piece} (h : p.isTag = true) : p.number ∈ nameM l p := by
  unfold nameM
  by_cases c : l.contains p.number = true
  · rw [if_neg (fun z => by rw [z.2] at c; cases c)]
    exact List.contains_iff_mem.mp c
  · rw [if_pos ⟨h, by cases z : l.contains p.number with | true => exact absurd z c | false => rfl⟩]
    exact List.mem_append_right _ (List.mem_singleton.mpr rfl)
theorem renamed_same {f g : Nat → Nat} {p : Piece} (h : p.isTag = true → f p.number = g p.number) : p.renamed f = p.renamed g := by
  cases p with
  | char c => rfl
  | open_ n => show Piece.open_ (f n) = .open_ (g n); rw [show f n = g n from h rfl]
  | close n => show Piece.close (f n) = .close (g n); rw [show f n = g n from h rfl]
  | alone n => show Piece.alone (f n) = .alone (g n); rw [show f n = g n from h rfl]
theorem formL_eq : ∀ (r : Row) (l : List Nat), formL l r = r.map (Piece.renamed (placeOf (numbersOf r l)))
  | [], l => rfl
  | p :: r, l => by
    have e : numbersOf (p :: r) l = numbersOf r (nameM l p) := rfl
    rw [formL, List.map_cons, formL_eq r (nameM l p), e]
    congr 1
    refine renamed_same fun h => ?_
    obtain ⟨m, hm⟩ := numbers_more r (nameM l p)
    rw [hm, place_more (name_has h)]
theorem formOf_eq (r : Row) : formOf r = formL [] r := (formL_eq r []).symm
/-! ### how many are alike -/
section
variable {α : Type} [DecidableEq α]
def ndM : List α → Nat
  | [] => 0
  | x :: l => (if x ∈ l then 0 else 1) + ndM l
theorem nd_perm {l m : List α} (h : l.Perm m) : ndM l = ndM m := by
  induction h with
  | nil => rfl
  | @cons x l1 l2 h ih =>
    rw [ndM, ndM, ih]
    by_cases c : x ∈ l1
    · rw [if_pos c, if_pos (h.mem_iff.mp c)]
    · rw [if_neg c, if_neg (fun z => c (h.mem_iff.mpr z))]
  | swap x y l =>
    rw [ndM, ndM, ndM, ndM]
    by_cases e : x = y
    · subst e; rfl
    · have e1 : (y ∈ x :: l) ↔ y ∈ l := ⟨fun z => (List.mem_cons.mp z).elim (fun q => absurd q.symm e) id, List.mem_cons_of_mem _⟩
      have e2 : (x ∈ y :: l) ↔ x ∈ l := ⟨fun z => (List.mem_cons.mp z).elim (fun q => absurd q e) id, List.mem_cons_of_mem _⟩
      by_cases h1 : x ∈ l
      · by_cases h2 : y ∈ l
        · rw [if_pos h1, if_pos h2, if_pos (e1.mpr h2), if_pos (e2.mpr h1)]
        · rw [if_pos h1, if_neg h2, if_neg (fun z => h2 (e1.mp z)), if_pos (e2.mpr h1)]; omega
      · by_cases h2 : y ∈ l
        · rw [if_neg h1, if_pos h2, if_pos (e1.mpr h2), if_neg (fun z => h1 (e2.mp z))]; omega
        · rw [if_neg h1, if_neg h2, if_neg (fun z => h2 (e1.mp z)), if_neg (fun z => h1 (e2.mp z))]
  | trans _ _ h1 h2 => exact h1.trans h2
theorem nd_snoc (l : List α) (x : α) : ndM (l ++ [x]) = ndM l + if x ∈ l then 0 else 1 := by
  rw [nd_perm (List.perm_append_comm (l₁ := l) (l₂ := [x]))]
  show (if x ∈ l then 0 else 1) + ndM l = _
  omega
theorem nd_le : ∀ l : List α, ndM l ≤ l.length
  | [] => Nat.le_refl _
  | x :: l => by
    have := nd_le l
    rw [ndM, List.length_cons]
    split <;> omega
theorem nd_map {β : Type} [DecidableEq β] {f : α → β} (hf : ∀ x y, f x = f y → x = y) : ∀ l : List α, ndM (l.map f) = ndM l
  | [] => rfl
  | x :: l => by
    rw [List.map_cons, ndM, ndM, nd_map hf l]
    by_cases c : x ∈ l
    · rw [if_pos c, if_pos (List.mem_map_of_mem c)]
    · rw [if_neg c, if_neg]
      intro z
      obtain ⟨y, hy, e⟩ := List.mem_map.mp z
      exact c (hf _ _ e ▸ hy)
def adjM : List α → Nat
  | x :: y :: l => (if x = y then 1 else 0) + adjM (y :: l)
  | _ => 0
theorem adj_nd {le : α → α → Bool} (anti : ∀ x y, le x y = true → le y x = true → x = y) (tr : ∀ x y z, le x y = true → le y z = true → le x z = true) : ∀ l : List α, l.Pairwise (fun x y => le x y = true) → adjM l + ndM l = l.length
  | [], _ => rfl
  | [x], _ => rfl
  | x :: y :: l, h => by
    have h2 := (List.pairwise_cons.mp h).2
    have h1 := (List.pairwise_cons.mp h).1
    have ih := adj_nd anti tr (y :: l) h2
    have e1 : adjM (x :: y :: l) = (if x = y then 1 else 0) + adjM (y :: l) := rfl
    have e2 : ndM (x :: y :: l) = (if x ∈ y :: l then 0 else 1) + ndM (y :: l) := rfl
    rw [e1, e2, List.length_cons]
    have q : (x ∈ y :: l) ↔ x = y := by
      refine ⟨fun z => ?_, fun z => z ▸ List.mem_cons_self⟩
      rcases List.mem_cons.mp z with z | z
      · exact z
      · exact anti x y (h1 y List.mem_cons_self) ((List.pairwise_cons.mp h2).1 x z)
    by_cases c : x = y
    · rw [if_pos c, if_pos (q.mpr c)]; omega
    · rw [if_neg c, if_neg (fun z => c (q.mp z))]; omega
end
def cntF (s : Nat × Option (List Nat)) (x : List Nat) : Nat × Option (List Nat) := (if s.2 == some x then s.1 + 1 else s.1, some x)
theorem cnt_adj : ∀ (l : List (List Nat)) (n : Nat) (y : List Nat), (l.foldl cntF (n, some y)).1 = n + adjM (y :: l)
  | [], n, y => rfl
  | x :: l, n, y => by
    rw [List.foldl_cons]
    have e : cntF (n, some y) x = (if y = x then n + 1 else n, some x) := by
      unfold cntF
      dsimp only
      by_cases c : y = x
      · subst c
        rw [if_pos (by simp), if_pos rfl]
      · rw [if_neg (by simpa using c), if_neg c]
    rw [e, cnt_adj l _ x]
    show _ = n + ((if y = x then 1 else 0) + adjM (x :: l))
    split <;> omega
theorem key_total : ∀ a b : List Nat, (keyBefore a b || keyBefore b a) = true
  | [], b => by rw [keyBefore]; rfl
  | a :: r, [] => by rw [show keyBefore [] (a :: r) = true from rfl, Bool.or_true]
  | a :: r, b :: s => by
    have ih := key_total r s
    rw [Bool.or_eq_true] at ih
    rw [keyBefore, keyBefore]
    rcases Nat.lt_trichotomy a b with h | h | h
    · rw [decide_eq_true h]; rfl
    · subst h
      rcases ih with ih | ih
      · simp [ih]
      · simp [ih]
    · rw [decide_eq_true h]; simp
theorem key_iff (a b : Nat) (r s : List Nat) : keyBefore (a :: r) (b :: s) = true ↔ a < b ∨ (a = b ∧ keyBefore r s = true) := by
  rw [keyBefore, Bool.or_eq_true, decide_eq_true_eq, Bool.and_eq_true, beq_iff_eq]
theorem key_trans : ∀ a b c : List Nat, keyBefore a b = true → keyBefore b c = true → keyBefore a c = true
  | [], _, _, _, _ => by rw [keyBefore]
  | a :: r, [], _, h, _ => by cases h
  | a :: r, b :: s, [], _, h => by cases h
  | a :: r, b :: s, c :: t, h1, h2 => by
    rw [key_iff] at h1 h2 ⊢
    rcases h1 with h1 | ⟨h1, h3⟩
    · rcases h2 with h2 | ⟨h2, h4⟩
      · exact Or.inl (by omega)
      · exact Or.inl (by omega)
    · rcases h2 with h2 | ⟨h2, h4⟩
      · exact Or.inl (by omega)
      · exact Or.inr ⟨by omega, key_trans r s t h3 h4⟩
theorem key_anti : ∀ a b : List Nat, keyBefore a b = true → keyBefore b a = true → a = b
  | [], [], _, _ => rfl
  | [], b :: s, _, h => by cases h
  | a :: r, [], h, _ => by cases h
  | a :: r, b :: s, h1, h2 => by
    rw [key_iff] at h1 h2
    rcases h1 with h1 | ⟨h1, h3⟩
    · rcases h2 with h2 | ⟨h2, _⟩ <;> omega
    · rcases h2 with h2 | ⟨h2, h4⟩
      · omega
      · rw [h1, key_anti r s h3 h4]
theorem pieceKey_inj : ∀ p q : Piece, pieceKey p = pieceKey q → p = q := by
  intro p q h
  cases p <;> cases q <;> simp only [pieceKey] at h <;> first | (exfalso; omega) | (congr 1; omega)
theorem map_inj {α β : Type} {f : α → β} (hf : ∀ x y, f x = f y → x = y) : ∀ a b : List α, a.map f = b.map f → a = b
  | [], [], _ => rfl
  | [], _ :: _, h => by cases h
  | _ :: _, [], h => by cases h
  | a :: r, b :: s, h => by
    rw [List.map_cons, List.map_cons] at h
    injection h with h1 h2
    rw [hf _ _ h1, map_inj hf r s h2]
/-- **how many are of one form with an earlier one** -/
theorem repeated_eq (l : List Row) : repeated l + ndM (l.map formOf) = l.length := by
  unfold repeated
  have ep : (l.map fun (r : Row) => (formOf r).map pieceKey) = (l.map formOf).map (List.map pieceKey) := by rw [List.map_map]; rfl
  rw [ep]
  have hp := List.mergeSort_perm ((l.map formOf).map (List.map pieceKey)) keyBefore
  have hs := List.pairwise_mergeSort (le := keyBefore) key_trans key_total ((l.map formOf).map (List.map pieceKey))
  have en : ndM ((l.map formOf).map (List.map pieceKey)) = ndM (l.map formOf) := nd_map (map_inj pieceKey_inj) _
  have el : (((l.map formOf).map (List.map pieceKey)).mergeSort keyBefore).length = l.length := by rw [hp.length_eq, List.length_map, List.length_map]
  rw [← en, ← nd_perm hp, ← el]
  have q := adj_nd key_anti key_trans _ hs
  generalize ((l.map formOf).map (List.map pieceKey)).mergeSort keyBefore = m at q
  rw [← q]
  congr 1
  cases m with
  | nil => rfl
  | cons x m =>
    have e : (List.foldl cntF (0, none) (x :: m)).1 = (List.foldl cntF (0, some x) m).1 := rfl
    have h := cnt_adj m 0 x
    rw [Nat.zero_add] at h
    exact e.trans h
end Sm
/-! ## Lines, step by step -/
namespace Sm
open Fh FhSegs
theorem lineN_end {c : UInt8} {r : Bytes} (h : c.toNat = 10) : lineN (c :: r) = 0 := by
  have e : c = 10 := UInt8.toNat_inj.mp h
  subst e
  rfl
theorem lineN_on {c : UInt8} {r : Bytes} (h : c.toNat ≠ 10) : lineN (c :: r) = lineN r + 1 := by
  unfold lineN
  rw [List.takeWhile_cons_of_pos (p := fun (y : UInt8) => y != 10), List.length_cons]
  have e : c ≠ 10 := fun z => h (by rw [z]; rfl)
  simpa using e
theorem early_cons {n at_ : Nat} {c : UInt8} {r : Bytes} : earlyF n at_ (c :: r) = if LINES ≤ n ∨ lineN (c :: r) = 0 ∨ ¬ (c.toNat = 124 ∨ c.toNat = 62) then some at_ else if lineN (c :: r) = (c :: r).length then some (at_ + lineN (c :: r)) else none := rfl
/-- the fault of a raw line's characters, by its place alone -/
theorem lineRead_raw {at_ : Nat} {c : UInt8} {b : Bytes} (h : c.toNat = 124) : lineRead at_ (c :: b) = match charsRead b with
    | .ok t => if PIECES < t.length then .error (4, at_) else .ok (.raw t)
    | .error k => .error (2, at_ + 1 + k) := by
  have e : c = 124 := byte124.mpr h
  subst e
  rfl
theorem lineRead_para {at_ : Nat} {c : UInt8} {b : Bytes} (h : c.toNat = 62) : lineRead at_ (c :: b) = match rowRead b with
    | .ok r => if PIECES < r.length ∨ ROWTEXT < b.length then .error (4, at_) else if paired r = false then .error (3, at_) else .ok (.para r)
    | .error k => .error (2, at_ + 1 + k) := by
  have e : c = 62 := byte62.mpr h
  subst e
  rfl
end Sm
/-! ## What was handed over with a document -/
namespace Sm
open Fh FhSegs
def docM (t d : Bytes) : Except Int (Rules × Document) := if RULETEXT < t.length ∨ DOCTEXT < d.length then .error (-6) else match rulesGiven t with
  | .error e => .error e
  | .ok R => match docRead d with
    | .error _ => .error (-5)
    | .ok x => .ok (R, x)
theorem ofDoc_eq (t d : Bytes) (f : Rules → Document → Answer) : ofDoc t d f = match docM t d with | .error e => says e | .ok y => f y.1 y.2 := by
  unfold ofDoc docM
  by_cases c : RULETEXT < t.length ∨ DOCTEXT < d.length
  · rw [if_pos c, if_pos c]
  · rw [if_neg c, if_neg c]
    cases rulesGiven t with
    | error e => rfl
    | ok R =>
      dsimp only
      cases docRead d <;> rfl
theorem docM_ok {t d : Bytes} {R : Rules} {x : Document} (h : docM t d = .ok (R, x)) : docRead d = .ok x := by
  unfold docM at h
  by_cases c : RULETEXT < t.length ∨ DOCTEXT < d.length
  · rw [if_pos c] at h; cases h
  · rw [if_neg c] at h
    cases g : rulesGiven t with
    | error e => rw [g] at h; cases h
    | ok R' =>
      rw [g] at h
      dsimp only at h
      cases g2 : docRead d with
      | error e => rw [g2] at h; cases h
      | ok y => rw [g2] at h; cases h; rfl
theorem sl_mem {row : Row} {b e : Nat} {q : Piece} (h : q ∈ sl row b e) : q ∈ row := List.mem_of_mem_take (List.mem_of_mem_drop h)
theorem sl_few {row : Row} {b e : Nat} : (sl row b e).length ≤ row.length := by
  unfold sl
  rw [List.length_drop, List.length_take]
  omega
theorem docSegs_ok (R : Rules) : ∀ (d : Document) (n : Nat), (∀ l ∈ d, okL l) → ∀ z ∈ docSegs R n d, (∀ q ∈ z.2.2.2, goodP q) ∧ z.2.2.2.length ≤ 4096
  | [], n, _, z, h => by cases h
  | .raw t :: d, n, ho, z, h => docSegs_ok R d (n + 1) (fun l hl => ho l (List.mem_cons_of_mem _ hl)) z h
  | .para r :: d, n, ho, z, h => by
    have h : z ∈ (posOf R r).map (segP n r) ++ docSegs R (n + 1) d := h
    rcases List.mem_append.mp h with h | h
    · obtain ⟨x, hx, rfl⟩ := List.mem_map.mp h
      have hr := ho (.para r) List.mem_cons_self
      exact ⟨fun q hq => hr.2.1 q (sl_mem hq), Nat.le_trans sl_few hr.1⟩
    · exact docSegs_ok R d (n + 1) (fun l hl => ho l (List.mem_cons_of_mem _ hl)) z h
end Sm
/-! ## Targets that fit -/
namespace Sm
open Fh FhSegs
def tagKey : Piece → Nat × Nat
  | .char c => (0, c)
  | .open_ n => (1, n)
  | .close n => (2, n)
  | .alone n => (3, n)
def leT (p q : Piece) : Prop := (tagKey p).1 < (tagKey q).1 ∨ ((tagKey p).1 = (tagKey q).1 ∧ (tagKey p).2 ≤ (tagKey q).2)
theorem tagKey_inj : ∀ p q : Piece, tagKey p = tagKey q → p = q := by
  intro p q h
  cases p <;> cases q <;> simp only [tagKey, Prod.mk.injEq] at h <;> first | (exfalso; omega) | (congr 1; omega)
theorem leT_anti {p q : Piece} (h1 : leT p q) (h2 : leT q p) : p = q := by
  refine tagKey_inj p q ?_
  unfold leT at h1 h2
  have e1 : (tagKey p).1 = (tagKey q).1 := by omega
  have e2 : (tagKey p).2 = (tagKey q).2 := by omega
  exact Prod.ext e1 e2
theorem sorted_eq : ∀ {a b : Row}, a.Pairwise leT → b.Pairwise leT → a.Perm b → a = b
  | [], b, _, _, h => (h.symm.eq_nil).symm
  | p :: a, [], _, _, h => absurd h.length_eq (by rw [List.length_cons]; intro z; cases z)
  | p :: a, q :: b, ha, hb, h => by
    have hp : p ∈ q :: b := h.mem_iff.mp List.mem_cons_self
    have hq : q ∈ p :: a := h.mem_iff.mpr List.mem_cons_self
    have e : p = q := by
      rcases List.mem_cons.mp hp with e | hp
      · exact e
      · rcases List.mem_cons.mp hq with e | hq
        · exact e.symm
        · exact leT_anti ((List.pairwise_cons.mp ha).1 q hq) ((List.pairwise_cons.mp hb).1 p hp)
    subst e
    rw [sorted_eq (List.pairwise_cons.mp ha).2 (List.pairwise_cons.mp hb).2 h.cons_inv]
theorem perm_of_counts : ∀ (s t : Row), s.length = t.length → (∀ p ∈ s, s.count p = t.count p) → s.Perm t
  | [], t, h, _ => by
    cases t with
    | nil => exact .nil
    | cons a t => cases h
  | p :: s, t, h, hc => by
    have h1 : t.count p = s.count p + 1 := by rw [← hc p List.mem_cons_self, List.count_cons_self]
    have hm : p ∈ t := List.count_pos_iff.mp (by omega)
    have hp := List.perm_cons_erase hm
    refine List.Perm.trans (List.Perm.cons p (perm_of_counts s (t.erase p) ?_ ?_)) hp.symm
    · have := hp.length_eq
      rw [List.length_cons] at this h
      omega
    · intro q hq
      have h2 := hc q (List.mem_cons_of_mem _ hq)
      have h3 := hp.count_eq q
      rw [List.count_cons] at h2 h3
      omega
theorem sameTags_perm {s t : Row} : sameTags s t = true ↔ (tagsOf s).Perm (tagsOf t) := by
  unfold sameTags
  rw [Bool.and_eq_true, decide_eq_true_eq, List.all_eq_true]
  constructor
  · rintro ⟨h1, h2⟩
    exact perm_of_counts _ _ h1 (fun p hp => by simpa using h2 p hp)
  · intro h
    exact ⟨h.length_eq, fun p _ => by simpa using h.count_eq p⟩
def openF (p : Piece) : Option Nat := match p with
  | .open_ n => some n
  | _ => none
def closeF (p : Piece) : Option Nat := match p with
  | .close n => some n
  | _ => none
def aloneF (p : Piece) : Option Nat := match p with
  | .alone n => some n
  | _ => none
theorem opens_tags : ∀ r : Row, opens r = (tagsOf r).filterMap openF
  | [] => rfl
  | .char c :: r => opens_tags r
  | .open_ n :: r => congrArg (n :: ·) (opens_tags r)
  | .close n :: r => opens_tags r
  | .alone n :: r => opens_tags r
theorem closes_tags : ∀ r : Row, closes r = (tagsOf r).filterMap closeF
  | [] => rfl
  | .char c :: r => closes_tags r
  | .open_ n :: r => closes_tags r
  | .close n :: r => congrArg (n :: ·) (closes_tags r)
  | .alone n :: r => closes_tags r
theorem alones_tags : ∀ r : Row, alones r = (tagsOf r).filterMap aloneF
  | [] => rfl
  | .char c :: r => alones_tags r
  | .open_ n :: r => alones_tags r
  | .close n :: r => alones_tags r
  | .alone n :: r => congrArg (n :: ·) (alones_tags r)
theorem straight_iff (r : Row) : straight r = true ↔ ∃ h, halves r = some h ∧ (opens r).Nodup ∧ (closes r).Nodup ∧ (alones r).Nodup ∧ (∀ n ∈ alones r, n ∉ opens r ∧ n ∉ closes r) ∧ ∀ n ∈ h.1, n ∉ opens r := by
  unfold straight
  cases halves r with
  | none => exact ⟨fun h => (by cases h), fun ⟨h, e, _⟩ => (by cases e)⟩
  | some h =>
    dsimp only
    simp only [Bool.and_eq_true, decide_eq_true_eq, List.all_eq_true, Bool.not_eq_true', List.contains_eq_mem, decide_eq_false_iff_not]
    constructor
    · rintro ⟨h1, h2, h3, h4, h5⟩
      exact ⟨h, rfl, h1, h2, h3, h4, h5⟩
    · rintro ⟨g, e, h1, h2, h3, h4, h5⟩
      cases e
      exact ⟨h1, h2, h3, h4, h5⟩
theorem straight_same {s t : Row} (hp : (tagsOf s).Perm (tagsOf t)) (hh : halves s = halves t) (ht : straight t = true) : straight s = true := by
  obtain ⟨h, e, h1, h2, h3, h4, h5⟩ := (straight_iff t).mp ht
  have po : (opens s).Perm (opens t) := by rw [opens_tags, opens_tags]; exact hp.filterMap _
  have pc : (closes s).Perm (closes t) := by rw [closes_tags, closes_tags]; exact hp.filterMap _
  have pa : (alones s).Perm (alones t) := by rw [alones_tags, alones_tags]; exact hp.filterMap _
  refine (straight_iff s).mpr ⟨h, hh.trans e, po.nodup_iff.mpr h1, pc.nodup_iff.mpr h2, pa.nodup_iff.mpr h3, fun n hn => ?_, fun n hn => ?_⟩
  · have := h4 n (pa.mem_iff.mp hn)
    exact ⟨fun z => this.1 (po.mem_iff.mp z), fun z => this.2 (pc.mem_iff.mp z)⟩
  · exact fun z => h5 n hn (po.mem_iff.mp z)
/-- **a target fits**, as the program asks it -/
theorem fits_prog {s t a b : Row} (ha : a.Perm (tagsOf t)) (hb : b.Perm (tagsOf s)) (sa : a.Pairwise leT) (sb : b.Pairwise leT) :
    fits s t = match halvesP [] [] [] t with
      | none => false
      | some h => decide (a = b) && decide (halvesP [] [] [] s = some h) := by
  have eab : decide (a = b) = sameTags s t := by
    rw [Bool.eq_iff_iff, decide_eq_true_eq, sameTags_perm]
    constructor
    · rintro rfl; exact hb.symm.trans ha
    · intro h; exact sorted_eq sa sb (ha.trans (h.symm.trans hb.symm))
  rw [eab, halvesP_straight t]
  unfold fits
  by_cases ht : straight t = true
  · rw [if_pos ht, ht, Bool.true_and]
    obtain ⟨h, e, _⟩ := (straight_iff t).mp ht
    rw [e]
    dsimp only
    cases hs : sameTags s t with
    | false => rfl
    | true =>
      rw [Bool.true_and, Bool.true_and, halvesP_straight s]
      by_cases c : halves s = some h
      · have q := straight_same (sameTags_perm.mp hs) (c.trans e.symm) ht
        rw [if_pos q, c, decide_eq_true rfl]
        exact beq_self_eq_true _
      · have e1 : (halves s == some h) = false := by rw [beq_eq_false_iff_ne]; exact c
        rw [e1]
        by_cases q : straight s = true
        · rw [if_pos q, decide_eq_false c]
        · rw [if_neg q]; rfl
  · rw [if_neg ht]
    have h2 : straight t = false := by
      cases z : straight t with
      | true => exact absurd z ht
      | false => rfl
    rw [h2]; rfl
end Sm
/-! ## Targets' texts -/
namespace Sm
open Fh FhSegs
theorem byte61 {c : UInt8} : c = 61 ↔ c.toNat = 61 := ⟨fun h => by rw [h]; rfl, fun h => UInt8.toNat_inj.mp h⟩
theorem byte45 {c : UInt8} : c = 45 ↔ c.toNat = 45 := ⟨fun h => by rw [h]; rfl, fun h => UInt8.toNat_inj.mp h⟩
/-- the fault of a targets' line by its signs and its end -/
def signF (at_ : Nat) (r : Bytes) : Option Nat := match r with
  | [] => none
  | c :: _ => if ¬ (c.toNat = 61 ∨ c.toNat = 45) then some at_ else if c.toNat = 45 ∧ 1 < lineN r then some (at_ + 1) else if lineN r = r.length then some (at_ + lineN r) else none
theorem sign_cons {at_ : Nat} {c : UInt8} {r : Bytes} : signF at_ (c :: r) = if ¬ (c.toNat = 61 ∨ c.toNat = 45) then some at_ else if c.toNat = 45 ∧ 1 < lineN (c :: r) then some (at_ + 1) else if lineN (c :: r) = (c :: r).length then some (at_ + lineN (c :: r)) else none := rfl
theorem targetRead_other {at_ n : Nat} {s : Row} {x : Bytes} (h : ∀ c b, x = c :: b → ¬ (c.toNat = 61 ∨ c.toNat = 45)) : targetRead at_ n s x = .error (1, at_) := by
  cases x with
  | nil => rfl
  | cons c b =>
    have h := h c b rfl
    rw [targetRead.eq_def]
    dsimp only
    rw [if_neg (fun z => h (Or.inr (byte45.mp z))), if_neg (fun z => h (Or.inl (byte61.mp z)))]
theorem lineN_take (c : UInt8) (b : Bytes) : (c :: b).take (lineN (c :: b)) = [] ∨ ∃ m, lineN (c :: b) = m + 1 ∧ (c :: b).take (lineN (c :: b)) = c :: b.take m := by
  cases h : lineN (c :: b) with
  | zero => exact Or.inl rfl
  | succ m => exact Or.inr ⟨m, rfl, by rw [List.take_succ_cons]⟩
theorem tg_step {f at_ n : Nat} {s : Row} {ss : List Row} {l : List Target} {c : UInt8} {b : Bytes} : targetsFrom (f + 1) at_ n (s :: ss) l (c :: b) =
    if lineN (c :: b) = (c :: b).length then (if c = 45 then .error (1, at_ + 1) else if c = 61 then .error (1, at_ + lineN (c :: b)) else .error (1, at_))
    else match targetRead at_ n s ((c :: b).take (lineN (c :: b))) with
      | .error e => .error e
      | .ok t => targetsFrom f (at_ + lineN (c :: b) + 1) (n + 1) ss (t :: l) ((c :: b).drop (lineN (c :: b) + 1)) := by
  rw [targetsFrom.eq_def]
  dsimp only
  rw [take_lineN (c :: b)]
  have el : ((c :: b).take (lineN (c :: b))).length = lineN (c :: b) := by rw [List.length_take, Nat.min_eq_left (lineN_le _)]
  rw [el]
  all_goals rfl
theorem tg_early {f at_ n : Nat} {s : Row} {ss : List Row} {l : List Target} {r : Bytes} {p : Nat} (h : signF at_ r = some p) : targetsFrom (f + 1) at_ n (s :: ss) l r = .error (1, p) := by
  cases r with
  | nil => cases h
  | cons c b =>
    rw [tg_step]
    rw [sign_cons] at h
    by_cases h1 : c.toNat = 61 ∨ c.toNat = 45
    · rw [if_neg (fun z => z h1)] at h
      by_cases h2 : c.toNat = 45 ∧ 1 < lineN (c :: b)
      · rw [if_pos h2] at h
        cases h
        have e45 : c = 45 := byte45.mpr h2.1
        by_cases h3 : lineN (c :: b) = (c :: b).length
        · rw [if_pos h3, if_pos e45]
        · rw [if_neg h3]
          rcases lineN_take c b with h4 | ⟨m, h4, h5⟩
          · have := congrArg List.length h4
            rw [List.length_take, Nat.min_eq_left (lineN_le _), List.length_nil] at this
            omega
          · rw [h5]
            have hm : 1 ≤ m := by omega
            have hb : m ≤ b.length := by have := lineN_le (c :: b); rw [List.length_cons] at this; omega
            cases b with
            | nil => rw [List.length_nil] at hb; omega
            | cons d b =>
              obtain ⟨m, rfl⟩ : ∃ j, m = j + 1 := ⟨m - 1, by omega⟩
              rw [List.take_succ_cons, targetRead.eq_def]
              dsimp only
              rw [if_pos e45]
      · rw [if_neg h2] at h
        by_cases h3 : lineN (c :: b) = (c :: b).length
        · rw [if_pos h3] at h
          cases h
          rw [if_pos h3]
          by_cases h4 : c.toNat = 45
          · rw [if_pos (byte45.mpr h4)]
            have : lineN (c :: b) ≤ 1 := by
              rcases Nat.lt_or_ge 1 (lineN (c :: b)) with q | q
              · exact absurd ⟨h4, q⟩ h2
              · exact q
            rw [List.length_cons] at h3
            have : lineN (c :: b) = 1 := by omega
            rw [this]
          · rw [if_neg (fun z => h4 (byte45.mp z)), if_pos (byte61.mpr (h1.resolve_right h4))]
        · rw [if_neg h3] at h; cases h
    · rw [if_pos h1] at h
      cases h
      by_cases h3 : lineN (c :: b) = (c :: b).length
      · rw [if_pos h3, if_neg (fun z => h1 (Or.inr (byte45.mp z))), if_neg (fun z => h1 (Or.inl (byte61.mp z)))]
      · rw [if_neg h3]
        rw [targetRead_other (fun c' b' e => ?_)]
        rcases lineN_take c b with h4 | ⟨m, h4, h5⟩
        · rw [h4] at e; cases e
        · rw [h5] at e
          injection e with e1 e2
          rw [← e1]; exact h1
/-- what a line tells, when its signs are right: at the first sign -/
theorem tg_late {f at_ n : Nat} {s : Row} {ss : List Row} {l : List Target} {r : Bytes} (hr : r ≠ []) (h : signF at_ r = none) : lineN r < r.length ∧
    (∃ c b, r.take (lineN r) = c :: b ∧ ((c.toNat = 45 ∧ b = [] ∧ targetRead at_ n s (r.take (lineN r)) = .ok none) ∨ (c.toNat = 61 ∧ targetRead at_ n s (r.take (lineN r)) = match rowRead b with
      | .error k => .error (2, at_ + 1 + k)
      | .ok x => if PIECES < x.length then .error (3, at_) else if fits s x = true then .ok (some x) else .error (4, n)))) ∧
    targetsFrom (f + 1) at_ n (s :: ss) l r = match targetRead at_ n s (r.take (lineN r)) with
      | .error e => .error e
      | .ok t => targetsFrom f (at_ + lineN r + 1) (n + 1) ss (t :: l) (r.drop (lineN r + 1)) := by
  cases r with
  | nil => exact absurd rfl hr
  | cons c b =>
    rw [sign_cons] at h
    have hle := lineN_le (c :: b)
    by_cases h1 : c.toNat = 61 ∨ c.toNat = 45
    · rw [if_neg (fun z => z h1)] at h
      by_cases h2 : c.toNat = 45 ∧ 1 < lineN (c :: b)
      · rw [if_pos h2] at h; cases h
      · rw [if_neg h2] at h
        by_cases h3 : lineN (c :: b) = (c :: b).length
        · rw [if_pos h3] at h; cases h
        · have h0 : lineN (c :: b) ≠ 0 := fun z => by
            have := lineN_zero z
            omega
          refine ⟨by omega, ?_, by rw [tg_step, if_neg h3]⟩
          rcases lineN_take c b with h4 | ⟨m, h4, h5⟩
          · have := congrArg List.length h4
            rw [List.length_take, Nat.min_eq_left (lineN_le _), List.length_nil] at this
            exact absurd this h0
          · refine ⟨c, b.take m, h5, ?_⟩
            by_cases h6 : c.toNat = 45
            · have : m = 0 := by
                rcases Nat.lt_or_ge 1 (lineN (c :: b)) with q | q
                · exact absurd ⟨h6, q⟩ h2
                · omega
              subst this
              refine Or.inl ⟨h6, rfl, ?_⟩
              rw [h5, targetRead.eq_def]
              dsimp only
              rw [if_pos (byte45.mpr h6)]
              all_goals rfl
            · have h7 : c.toNat = 61 := h1.resolve_right h6
              refine Or.inr ⟨h7, ?_⟩
              rw [h5, targetRead.eq_def]
              dsimp only
              rw [if_neg (fun z => h6 (byte45.mp z)), if_pos (byte61.mpr h7)]
              all_goals rfl
    · rw [if_pos h1] at h; cases h
def tgOne (at_ n : Nat) (s : Row) (r : Bytes) : Except Bad Target := match signF at_ r with
  | some p => .error (1, p)
  | none => targetRead at_ n s (r.take (lineN r))
theorem tg_one {f at_ n : Nat} {s : Row} {ss : List Row} {l : List Target} {r : Bytes} (hr : r ≠ []) : targetsFrom (f + 1) at_ n (s :: ss) l r = match tgOne at_ n s r with
      | .error e => .error e
      | .ok t => targetsFrom f (at_ + lineN r + 1) (n + 1) ss (t :: l) (r.drop (lineN r + 1)) := by
  unfold tgOne
  cases h : signF at_ r with
  | some p => exact tg_early h
  | none => exact (tg_late hr h).2.2
theorem tg_nil {f at_ n : Nat} {ss : List Row} {l : List Target} : targetsFrom f at_ n ss l [] = if ss.isEmpty = true then .ok l.reverse else .error (5, at_) := by
  cases f <;> cases ss <;> rfl
theorem tg_more {f at_ n : Nat} {l : List Target} {c : UInt8} {b : Bytes} : targetsFrom f at_ n [] l (c :: b) = .error (5, at_) := by
  cases f <;> rfl
/-! ### rows with targets in their segments' places -/
def tRow (row : Row) : Nat → List (Nat × Nat) → List Target → Row
  | at_, p :: ps, t :: ts => sl row at_ p.1 ++ (t.getD (sl row p.1 p.2) ++ tRow row p.2 ps ts)
  | at_, _, _ => row.drop at_
theorem fill_row (row : Row) : ∀ (X : List Pos) (g : Nat) (ts : List Target), Chain row g X → X.length ≤ ts.length → (fill (X.map (partOf row)) ts).2 = ts.drop X.length ∧
    (fill (X.map (partOf row)) ts).1 ++ sl row (endOf g X) row.length = tRow row g (X.map fun x => x.2) (ts.take X.length)
  | [], g, ts, _, _ => by
    refine ⟨by cases ts <;> rfl, ?_⟩
    have e : (fill (([] : List Pos).map (partOf row)) ts).1 = [] := by cases ts <;> rfl
    rw [e, List.nil_append, sl_all]
    rfl
  | x :: X, g, [], _, h => absurd h (by rw [List.length_cons, List.length_nil]; omega)
  | x :: X, g, t :: ts, c, h => by
    rw [List.length_cons, List.length_cons] at h
    have ih := fill_row row X x.2.2 ts c.2.2.2.2 (by omega)
    refine ⟨?_, ?_⟩
    · show (fill (X.map (partOf row)) ts).2 = _
      rw [ih.1]; rfl
    · show ((partOf row x).1 ++ (t.getD (partOf row x).2 ++ (fill (X.map (partOf row)) ts).1)) ++ sl row (endOf x.2.2 X) row.length = sl row g x.2.1 ++ (t.getD (sl row x.2.1 x.2.2) ++ tRow row x.2.2 (X.map fun x => x.2) (ts.take X.length))
      rw [← ih.2, List.append_assoc, List.append_assoc, c.1.symm]
      rfl
/-- the paragraph with targets -/
def paraT (R : Rules) (r : Row) (ts : List Target) : Row := tRow r 0 ((posOf R r).map fun x => x.2) (ts.take (posOf R r).length)
theorem put_para (R : Rules) (r : Row) (d : Document) (ts : List Target) (h : (posOf R r).length ≤ ts.length) : putFrom R (.para r :: d) ts = .para (paraT R r ts) :: putFrom R d (ts.drop (posOf R r).length) := by
  have c := chain_row R r
  have f := fill_row r (posOf R r) 0 ts c.1 h
  rw [putFrom.eq_def]
  dsimp only
  rw [parted_eq]
  dsimp only
  rw [c.2, f.2, f.1]
  rfl
theorem put_raw (R : Rules) (t : List Nat) (d : Document) (ts : List Target) : putFrom R (.raw t :: d) ts = .raw t :: putFrom R d ts := rfl
theorem put_nil (R : Rules) (ts : List Target) : putFrom R [] ts = [] := by cases ts <;> rfl
theorem docSegs_ge (R : Rules) : ∀ (d : Document) (n : Nat), ∀ z ∈ docSegs R n d, n ≤ z.1
  | [], n, z, h => by cases h
  | .raw t :: d, n, z, h => by have := docSegs_ge R d (n + 1) z h; omega
  | .para r :: d, n, z, h => by
    have h : z ∈ (posOf R r).map (segP n r) ++ docSegs R (n + 1) d := h
    rcases List.mem_append.mp h with h | h
    · obtain ⟨x, hx, rfl⟩ := List.mem_map.mp h
      exact Nat.le_refl _
    · have := docSegs_ge R d (n + 1) z h; omega
/-! ### sizes -/
def tLen (t : Target) : Nat := (t.getD []).length
def tSum (ts : List Target) : Nat := (ts.map tLen).sum
def goodT (t : Target) : Prop := ∀ r, t = some r → (∀ q ∈ r, goodP q) ∧ r.length ≤ 4096
theorem chain_le {row : Row} : ∀ {l : List Pos} {g : Nat}, Chain row g l → g ≤ row.length → endOf g l ≤ row.length := fun c h => (endOf_le c h).2
theorem tRow_len (row : Row) : ∀ (X : List Pos) (g : Nat) (ts : List Target), Chain row g X → (tRow row g (X.map fun x => x.2) ts).length + g ≤ row.length + g + tSum ts
  | [], g, ts, _ => by
    have e : tRow row g (([] : List Pos).map fun x => x.2) ts = row.drop g := by cases ts <;> rfl
    rw [e, List.length_drop]
    omega
  | x :: X, g, [], c => by
    have e : tRow row g ((x :: X).map fun x => x.2) [] = row.drop g := rfl
    rw [e, List.length_drop]
    omega
  | x :: X, g, t :: ts, c => by
    have ih := tRow_len row X x.2.2 ts c.2.2.2.2
    have e : tRow row g ((x :: X).map fun x => x.2) (t :: ts) = sl row g x.2.1 ++ (t.getD (sl row x.2.1 x.2.2) ++ tRow row x.2.2 (X.map fun x => x.2) ts) := rfl
    obtain ⟨c1, c2, c3, c4, c5⟩ := c
    have e1 : (sl row g x.2.1).length = x.2.1 - g := sl_len (by omega)
    have e2 : (sl row x.2.1 x.2.2).length = x.2.2 - x.2.1 := sl_len (by omega)
    have e3 : (t.getD (sl row x.2.1 x.2.2)).length ≤ (x.2.2 - x.2.1) + tLen t := by
      cases t with
      | none => show (sl row x.2.1 x.2.2).length ≤ _; omega
      | some r => show r.length ≤ (x.2.2 - x.2.1) + r.length; omega
    have e4 : tSum (t :: ts) = tLen t + tSum ts := by unfold tSum; rw [List.map_cons, List.sum_cons]
    have c1' : g = x.1 := c1.symm
    have ih2 : (tRow row x.2.2 (X.map fun x => x.2) ts).length ≤ (row.length - x.2.2) + tSum ts := tRow_len2 row X x.2.2 ts c5
    rw [e, List.length_append, List.length_append]
    omega
where
  tRow_len2 (row : Row) : ∀ (X : List Pos) (g : Nat) (ts : List Target), Chain row g X → (tRow row g (X.map fun x => x.2) ts).length ≤ (row.length - g) + tSum ts
  | [], g, ts, _ => by
    have e : tRow row g (([] : List Pos).map fun x => x.2) ts = row.drop g := by cases ts <;> rfl
    rw [e, List.length_drop]
    omega
  | x :: X, g, [], c => by
    have e : tRow row g ((x :: X).map fun x => x.2) [] = row.drop g := rfl
    rw [e, List.length_drop]
    omega
  | x :: X, g, t :: ts, c => by
    obtain ⟨c1, c2, c3, c4, c5⟩ := c
    have ih := tRow_len2 row X x.2.2 ts c5
    have e : tRow row g ((x :: X).map fun x => x.2) (t :: ts) = sl row g x.2.1 ++ (t.getD (sl row x.2.1 x.2.2) ++ tRow row x.2.2 (X.map fun x => x.2) ts) := rfl
    have e1 : (sl row g x.2.1).length = x.2.1 - g := sl_len (by omega)
    have e2 : (sl row x.2.1 x.2.2).length = x.2.2 - x.2.1 := sl_len (by omega)
    have e3 : (t.getD (sl row x.2.1 x.2.2)).length ≤ (x.2.2 - x.2.1) + tLen t := by
      cases t with
      | none => show (sl row x.2.1 x.2.2).length ≤ _; omega
      | some r => show r.length ≤ (x.2.2 - x.2.1) + r.length; omega
    have e4 : tSum (t :: ts) = tLen t + tSum ts := by unfold tSum; rw [List.map_cons, List.sum_cons]
    rw [e, List.length_append, List.length_append]
    omega
theorem tRow_good (row : Row) (hr : ∀ q ∈ row, goodP q) : ∀ (ps : List (Nat × Nat)) (g : Nat) (ts : List Target), (∀ t ∈ ts, goodT t) → ∀ q ∈ tRow row g ps ts, goodP q
  | [], g, ts, _, q, h => hr q (List.mem_of_mem_drop (by cases ts <;> exact h))
  | p :: ps, g, [], _, q, h => hr q (List.mem_of_mem_drop h)
  | p :: ps, g, t :: ts, ht, q, h => by
    have h : q ∈ sl row g p.1 ++ (t.getD (sl row p.1 p.2) ++ tRow row p.2 ps ts) := h
    rcases List.mem_append.mp h with h | h
    · exact hr q (sl_mem h)
    · rcases List.mem_append.mp h with h | h
      · cases t with
        | none => exact hr q (sl_mem h)
        | some r => exact (ht (some r) List.mem_cons_self r rfl).1 q h
      · exact tRow_good row hr ps p.2 ts (fun t h => ht t (List.mem_cons_of_mem _ h)) q h
theorem targets_ok : ∀ (f at_ n : Nat) (ss : List Row) (l : List Target) (b : Bytes) (x : List Target), targetsFrom f at_ n ss l b = .ok x → (∀ t ∈ l, goodT t) → (∀ t ∈ x, goodT t) ∧ tSum x ≤ tSum l + b.length ∧ x.length = l.length + ss.length
  | f, at_, n, ss, l, [], x, h, hl => by
    rw [tg_nil] at h
    cases ss with
    | nil =>
      cases h
      refine ⟨fun t ht => hl t (List.mem_reverse.mp ht), ?_, by rw [List.length_reverse]; rfl⟩
      unfold tSum
      rw [List.map_reverse, List.sum_reverse]
      exact Nat.le_add_right _ _
    | cons s ss => cases h
  | f, at_, n, [], l, c :: b, x, h, hl => by rw [tg_more] at h; cases h
  | 0, at_, n, s :: ss, l, c :: b, x, h, hl => by cases h
  | f + 1, at_, n, s :: ss, l, c :: b, x, h, hl => by
    cases e : signF at_ (c :: b) with
    | some p => rw [tg_early e] at h; cases h
    | none =>
      obtain ⟨h1, ⟨c', b', h2, h3⟩, h4⟩ := tg_late (f := f) (n := n) (s := s) (ss := ss) (l := l) (by intro z; cases z) e
      rw [h4] at h
      have hb' : b'.length + 1 = lineN (c :: b) := by
        have := congrArg List.length h2
        rw [List.length_take, Nat.min_eq_left (lineN_le _), List.length_cons] at this
        omega
      have key : ∀ t, targetRead at_ n s ((c :: b).take (lineN (c :: b))) = .ok t → goodT t ∧ tLen t ≤ b'.length := by
        intro t ht
        rcases h3 with ⟨h5, h6, h7⟩ | ⟨h5, h7⟩
        · rw [h7] at ht
          cases ht
          exact ⟨fun r hr => (by cases hr), Nat.zero_le _⟩
        · rw [h7] at ht
          cases g : rowRead b' with
          | error k => rw [g] at ht; cases ht
          | ok y =>
            rw [g] at ht
            dsimp only at ht
            by_cases q1 : PIECES < y.length
            · rw [if_pos q1] at ht; cases ht
            · rw [if_neg q1] at ht
              by_cases q2 : fits s y = true
              · rw [if_pos q2] at ht
                cases ht
                have q3 : ¬ 4096 < y.length := q1
                exact ⟨fun r hr => by cases hr; exact ⟨row_good g, by omega⟩, row_len g⟩
              · rw [if_neg q2] at ht; cases ht
      cases g : targetRead at_ n s ((c :: b).take (lineN (c :: b))) with
      | error e => rw [g] at h; cases h
      | ok t =>
        rw [g] at h
        obtain ⟨k1, k2⟩ := key t g
        have ih := targets_ok f _ _ ss (t :: l) _ x h (fun u hu => by
          rcases List.mem_cons.mp hu with rfl | hu
          · exact k1
          · exact hl u hu)
        refine ⟨ih.1, ?_, by rw [ih.2.2, List.length_cons, List.length_cons]; omega⟩
        have h5 := ih.2.1
        have e4 : tSum (t :: l) = tLen t + tSum l := by unfold tSum; rw [List.map_cons, List.sum_cons]
        rw [e4, List.length_drop] at h5
        omega
def mL : Line → Nat
  | .raw t => (t.flatMap utf8).length + 2
  | .para r => r.length + 2
def mD (d : Document) : Nat := (d.map mL).sum
theorem docFrom_mL : ∀ (f at_ n : Nat) (d : Document) (b : Bytes) (x : Document), docFrom f at_ n d b = .ok x → mD x ≤ mD d.reverse + b.length
  | f, at_, n, d, [], x, h => by
    rw [doc_nil] at h
    cases h
    exact Nat.le_add_right _ _
  | 0, at_, n, d, c :: b, x, h => by cases h
  | f + 1, at_, n, d, c :: b, x, h => by
    cases e : earlyF n at_ (c :: b) with
    | some p =>
      obtain ⟨k, hk⟩ := doc_early (f := f) (d := d) e
      rw [hk] at h; cases h
    | none =>
      obtain ⟨_, hl, h2⟩ := doc_late (f := f) (d := d) (by intro z; cases z) e
      rw [h2] at h
      cases g : lineRead at_ ((c :: b).take (lineN (c :: b))) with
      | error e => rw [g] at h; cases h
      | ok l =>
        rw [g] at h
        have ih := docFrom_mL f _ _ _ _ x h
        have k := (line_ok g).2.2
        have hlen : ((c :: b).take (lineN (c :: b))).length = lineN (c :: b) := by rw [List.length_take, Nat.min_eq_left (lineN_le _)]
        have hm : mL l ≤ lineN (c :: b) + 1 := by
          rcases k with ⟨t, rfl, hb⟩ | ⟨r, c', rfl, hb, hr⟩
          · have := congrArg List.length hb
            rw [hlen, List.length_cons] at this
            show (t.flatMap utf8).length + 2 ≤ _
            omega
          · have := congrArg List.length hb
            rw [hlen, List.length_cons] at this
            have q := row_len hr
            show r.length + 2 ≤ _
            omega
        unfold mD at ih ⊢
        rw [List.reverse_cons, List.map_append, List.sum_append_nat, List.length_drop] at ih
        have h5 : (List.map mL [l]).sum = mL l := by show mL l + 0 = _; omega
        omega
theorem doc_mL {b : Bytes} {x : Document} (h : docRead b = .ok x) : mD x ≤ b.length := by
  have q := docFrom_mL _ _ _ _ _ _ h
  have e : mD ([] : Document).reverse = 0 := rfl
  omega
/-- a paragraph is within bounds -/
def okB (l : Line) : Bool := match l with
  | .raw _ => true
  | .para r => decide (r.length ≤ PIECES) && decide ((rowText r).length ≤ ROWTEXT)
theorem fitsB_eq (d : Document) : fitsBounds d = (d.all okB && decide ((docText d).length ≤ DOCTEXT)) := by
  unfold fitsBounds
  congr 2
end Sm
/-! ## Target documents, line by line -/
namespace Sm
open Fh FhSegs
theorem mD_step {d : Document} {i : Nat} (h : i < d.length) : mD (d.take (i + 1)) = mD (d.take i) + mL d[i] := by
  unfold mD
  rw [List.take_succ_eq_append_getElem h, List.map_append, List.sum_append_nat]
  rfl
theorem mD_take (d : Document) (i : Nat) : mD (d.take i) ≤ mD d := by
  unfold mD
  have e : (d.map mL).sum = ((d.take i).map mL).sum + ((d.drop i).map mL).sum := by
    rw [← List.sum_append_nat, ← List.map_append, List.take_append_drop]
  omega
theorem tSum_app (a b : List Target) : tSum (a ++ b) = tSum a + tSum b := by
  unfold tSum
  rw [List.map_append, List.sum_append_nat]
theorem tSum_add (T0 : List Target) (n l : Nat) : tSum (T0.take (n + l)) = tSum (T0.take n) + tSum ((T0.drop n).take l) := by
  rw [← tSum_app, List.take_add]
theorem tSum_take (T0 : List Target) (n : Nat) : tSum (T0.take n) ≤ tSum T0 := by
  have e := tSum_app (T0.take n) (T0.drop n)
  rw [List.take_append_drop] at e
  omega
theorem tSum_part (T0 : List Target) (n l : Nat) : tSum ((T0.drop n).take l) ≤ tSum T0 := by
  have h1 := tSum_take (T0.drop n) l
  have e := tSum_app (T0.take n) (T0.drop n)
  rw [List.take_append_drop] at e
  omega
theorem docSegs_at {R : Rules} {d : Document} {i : Nat} {r : Row} (h : d[i]? = some (.para r)) : docSegs R 0 d = docSegs R 0 (d.take i) ++ ((posOf R r).map (segP i r) ++ docSegs R (i + 1) (d.drop (i + 1))) := by
  obtain ⟨hi, e⟩ := List.getElem?_eq_some_iff.mp h
  have e2 := docSegs_app R (d.take i) (d.drop i) 0
  rw [List.take_append_drop, List.drop_eq_getElem_cons hi, e, List.length_take, Nat.min_eq_left (by omega), Nat.zero_add] at e2
  rw [e2]
  rfl
theorem docSegs_next {R : Rules} {d : Document} {i : Nat} {r : Row} (h : d[i]? = some (.para r)) : (docSegs R 0 (d.take (i + 1))).length = (docSegs R 0 (d.take i)).length + (posOf R r).length := by
  obtain ⟨hi, e⟩ := List.getElem?_eq_some_iff.mp h
  rw [List.take_succ_eq_append_getElem hi, docSegs_app, e, List.length_append]
  congr 1
  show ((posOf R r).map (segP _ r) ++ []).length = _
  rw [List.append_nil, List.length_map]
theorem docSegs_nextR {R : Rules} {d : Document} {i : Nat} {t : List Nat} (h : d[i]? = some (.raw t)) : (docSegs R 0 (d.take (i + 1))).length = (docSegs R 0 (d.take i)).length := by
  obtain ⟨hi, e⟩ := List.getElem?_eq_some_iff.mp h
  rw [List.take_succ_eq_append_getElem hi, docSegs_app, e, List.length_append]
  rfl
theorem seg_in {R : Rules} {d : Document} {i : Nat} {r : Row} (h : d[i]? = some (.para r)) {j : Nat} (hj : j < (posOf R r).length) : (docSegs R 0 d)[(docSegs R 0 (d.take i)).length + j]? = some (segP i r (posOf R r)[j]) := by
  rw [docSegs_at h, List.getElem?_append_right (by omega), Nat.add_sub_cancel_left, List.getElem?_append_left (by rw [List.length_map]; exact hj), List.getElem?_map, List.getElem?_eq_getElem hj]
  rfl
theorem seg_out {R : Rules} {d : Document} {i : Nat} {r : Row} (h : d[i]? = some (.para r)) {z : Seg} (hz : (docSegs R 0 d)[(docSegs R 0 (d.take i)).length + (posOf R r).length]? = some z) : z.1 ≠ i := by
  rw [docSegs_at h, List.getElem?_append_right (by omega), Nat.add_sub_cancel_left, List.getElem?_append_right (by rw [List.length_map]; exact Nat.le_refl _), List.length_map, Nat.sub_self] at hz
  have := docSegs_ge R _ _ z (List.mem_of_getElem? hz)
  omega
theorem seg_len {R : Rules} {d : Document} {i : Nat} {r : Row} (h : d[i]? = some (.para r)) : (docSegs R 0 (d.take i)).length + (posOf R r).length ≤ (docSegs R 0 d).length := by
  rw [docSegs_at h, List.length_append, List.length_append, List.length_map]
  omega
theorem seg_slice {R : Rules} {d : Document} {i : Nat} {r : Row} (h : d[i]? = some (.para r)) : ((docSegs R 0 d).take ((docSegs R 0 (d.take i)).length + (posOf R r).length)).drop (docSegs R 0 (d.take i)).length = (posOf R r).map (segP i r) := by
  rw [List.drop_take, Nat.add_sub_cancel_left, docSegs_at h, List.drop_left, List.take_append_of_le_length (by rw [List.length_map]; exact Nat.le_refl _), List.take_of_length_le (by rw [List.length_map]; exact Nat.le_refl _)]
theorem doc_cons (l : Line) (d : Document) : docText (l :: d) = l.text ++ docText d := by
  unfold docText
  rw [List.flatMap_cons]
theorem paraT_good {R : Rules} {r : Row} {ts : List Target} (hr : ∀ q ∈ r, goodP q) (ht : ∀ t ∈ ts, goodT t) : ∀ q ∈ paraT R r ts, goodP q := tRow_good r hr _ _ _ (fun t h => ht t (List.mem_of_mem_take h))
theorem paraT_len (R : Rules) (r : Row) (ts : List Target) : (paraT R r ts).length ≤ r.length + tSum (ts.take (posOf R r).length) := by
  have := tRow_len r (posOf R r) 0 (ts.take (posOf R r).length) (chain_row R r).1
  unfold paraT
  omega
end Sm
/-! # Data in the heap -/
namespace Sr
open PySem PySem.Spec PyProof.Rows L2
def bI (b : List UInt8) : List Int := b.map fun c => (c.toNat : Int)
theorem bI_len (b : List UInt8) : (bI b).length = b.length := List.length_map ..
theorem bI_at {b : List UInt8} {i : Nat} {c : UInt8} (h : b[i]? = some c) : (bI b)[i]? = some (c.toNat : Int) := by
  unfold bI; rw [List.getElem?_map, h]; rfl
theorem bI_app (b c : List UInt8) : bI (b ++ c) = bI b ++ bI c := List.map_append ..
/-- a list of whole numbers at a -/
abbrev LI (K : PySem.W.Frag) (H : Hp) (a : Addr) (ns : List Int) : Prop := SqL K H a (ns.map V.int)
theorem at_int {ns : List Int} {i : Int} {j : Nat} {z : Int} (e : i = (j : Int)) (h : ns[j]? = some z) : atI (ns.map V.int) i = some (.int z) := by
  subst e
  refine atI_nat ?_
  rw [List.getElem?_map, h]; rfl
theorem map_int_len (ns : List Int) : (ns.map V.int).length = ns.length := List.length_map ..
mutual
theorem dp_same {K : PySem.W.Frag} {H H' : Hp} (s : Same H H') : ∀ {v : V} {d : PyData}, Dp K H v d → Dp K H' v d
  | _, _, .non => .non
  | _, _, .bl b => .bl b
  | _, _, .int i => .int i
  | _, _, .str x => .str x
  | _, _, .lst h hs => .lst (same_l s h) (dps_same s hs)
  | _, _, .tup h hs => .tup (same_t s h) (dps_same s hs)
theorem dps_same {K : PySem.W.Frag} {H H' : Hp} (s : Same H H') : ∀ {vs : List V} {ds : List PyData}, DpAll K H vs ds → DpAll K H' vs ds
  | _, _, .nil => .nil
  | _, _, .cons h hs => .cons (dp_same s h) (dps_same s hs)
end
/-- tuples stand, and what is frozen -/
structure Kt (H H' : Hp) : Prop where
  t : ∀ p xs, H p = some (.tup xs) → H' p = some (.tup xs)
  f : ∀ p o u, H p = some (.frz o u) → H' p = some (.frz o u)
theorem Kt.refl (H : Hp) : Kt H H := ⟨fun _ _ h => h, fun _ _ _ h => h⟩
theorem Kt.trans {H H1 H2 : Hp} (a : Kt H H1) (b : Kt H1 H2) : Kt H H2 := ⟨fun p xs h => b.t p xs (a.t p xs h), fun p o u h => b.f p o u (a.f p o u h)⟩
theorem Kt.same {H H' : Hp} (s : Same H H') : Kt H H' := ⟨fun p xs h => s p _ h, fun p o u h => s p _ h⟩
def isTF : HO → Bool
  | .tup _ => true
  | .frz _ _ => true
  | _ => false
theorem Kt.upd {H : Hp} {a : Addr} {o o' : HO} (h : H a = some o) (n : isTF o = false) : Kt H (upd H a o') :=
  ⟨fun p xs hp => by rw [upd_ne (fun z => by rw [z, h] at hp; cases hp; cases n)]; exact hp, fun p q u hp => by rw [upd_ne (fun z => by rw [z, h] at hp; cases hp; cases n)]; exact hp⟩
theorem Kt.new {H : Hp} {a : Addr} {o' : HO} (h : H a = none) : Kt H (L2.upd H a o') := Kt.same (same_new h)
theorem Kt.st {K : PySem.W.Frag} {H H' : Hp} {a : Addr} {xs : List V} (k : Kt H H') (h : SqT K H a xs) : SqT K H' a xs := by
  rcases h with h | h
  · refine Or.inl ?_
    rcases h with h | ⟨o, h⟩
    · exact Or.inl (k.t a _ h)
    · exact Or.inr ⟨o, k.f a _ _ h⟩
  · exact Or.inr h
/-! data without a list in it -/
mutual
def tupD : PyData → Bool
  | .none => true
  | .bool _ => true
  | .int _ => true
  | .str _ => true
  | .tuple xs => tupDs xs
  | _ => false
def tupDs : List PyData → Bool
  | [] => true
  | x :: r => tupD x && tupDs r
end
theorem tupDs_map {α : Type} {f : α → PyData} (h : ∀ a, tupD (f a) = true) : ∀ l : List α, tupDs (l.map f) = true
  | [] => rfl
  | a :: l => by rw [List.map_cons, tupDs, h a, tupDs_map h l]; rfl
mutual
theorem Kt.d {K : PySem.W.Frag} {H H' : Hp} (k : Kt H H') : ∀ {v : V} {d : PyData}, tupD d = true → Dp K H v d → Dp K H' v d
  | _, _, _, .non => .non
  | _, _, _, .bl b => .bl b
  | _, _, _, .int i => .int i
  | _, _, _, .str x => .str x
  | _, _, z, .lst h hs => by simp [tupD] at z
  | _, _, z, .tup h hs => .tup (k.st h) (k.ds (by simpa [tupD] using z) hs)
theorem Kt.ds {K : PySem.W.Frag} {H H' : Hp} (k : Kt H H') : ∀ {vs : List V} {ds : List PyData}, tupDs ds = true → DpAll K H vs ds → DpAll K H' vs ds
  | _, _, _, .nil => .nil
  | _, _, z, .cons h hs => by
    simp only [tupDs, Bool.and_eq_true] at z
    exact .cons (k.d z.1 h) (k.ds z.2 hs)
end
theorem dp_ints {K : PySem.W.Frag} {H : Hp} : ∀ ns : List Int, DpAll K H (ns.map V.int) (ns.map PyData.int)
  | [] => .nil
  | n :: r => .cons (.int n) (dp_ints r)
theorem dps_ints {K : PySem.W.Frag} {H : Hp} : ∀ {ns : List Int} {vs : List V}, DpAll K H vs (ns.map PyData.int) → vs = ns.map V.int
  | [], _, .nil => rfl
  | n :: r, _, .cons h hs => by
    cases h
    rw [dps_ints hs]; rfl
theorem dps_len {K : PySem.W.Frag} {H : Hp} : ∀ {vs : List V} {ds : List PyData}, DpAll K H vs ds → vs.length = ds.length
  | _, _, .nil => rfl
  | _, _, .cons _ hs => by rw [List.length_cons, List.length_cons, dps_len hs]
theorem dps_get {K : PySem.W.Frag} {H : Hp} : ∀ {vs : List V} {ds : List PyData} {i : Nat} {d : PyData}, DpAll K H vs ds → ds[i]? = some d → ∃ v, vs[i]? = some v ∧ Dp K H v d
  | _, _, i, _, .nil, e => by simp at e
  | _, _, 0, _, .cons h _, e => by
    simp only [List.getElem?_cons_zero, Option.some.injEq] at e
    subst e
    exact ⟨_, rfl, h⟩
  | _, _, i + 1, _, .cons _ hs, e => by
    simp only [List.getElem?_cons_succ] at e
    obtain ⟨v, e2, h⟩ := dps_get hs e
    exact ⟨v, by simpa using e2, h⟩
theorem dps_app {K : PySem.W.Frag} {H : Hp} : ∀ {vs ws : List V} {ds es : List PyData}, DpAll K H vs ds → DpAll K H ws es → DpAll K H (vs ++ ws) (ds ++ es)
  | _, _, _, _, .nil, k => k
  | _, _, _, _, .cons h hs, k => .cons h (dps_app hs k)
theorem dps_one {K : PySem.W.Frag} {H : Hp} {v : V} {d : PyData} (h : Dp K H v d) : DpAll K H [v] [d] := .cons h .nil
theorem dps_drop {K : PySem.W.Frag} {H : Hp} : ∀ {vs : List V} {ds : List PyData} (n : Nat), DpAll K H vs ds → DpAll K H (vs.drop n) (ds.drop n)
  | _, _, 0, h => h
  | _, _, _ + 1, .nil => .nil
  | _, _, n + 1, .cons _ hs => dps_drop n hs
theorem dps_take {K : PySem.W.Frag} {H : Hp} : ∀ {vs : List V} {ds : List PyData} (n : Nat), DpAll K H vs ds → DpAll K H (vs.take n) (ds.take n)
  | _, _, 0, _ => .nil
  | _, _, _ + 1, .nil => .nil
  | _, _, n + 1, .cons h hs => .cons h (dps_take n hs)
theorem shaped_ints (ns : List Int) : SeqAt.shaped (.list (ns.map PyData.int)) = true := PySem.W.ke_shaped_ints ns
theorem eqv_ints : ∀ ns ms : List Int, PyData.eqvAll (ns.map PyData.int) (ms.map PyData.int) = decide (ns = ms)
  | [], [] => rfl
  | [], _ :: _ => by simp [PyData.eqvAll]
  | _ :: _, [] => by simp [PyData.eqvAll]
  | n :: ns, m :: ms => by
    rw [List.map_cons, List.map_cons, PyData.eqvAll, eqv_ints ns ms, PyData.eqv]
    by_cases e : n = m
    · subst e; by_cases f : ns = ms <;> simp [f]
    · simp [e]
section
variable {K : PySem.W.Frag} {H : Hp} {Q : VK}
/-- xs == ys, two lists of whole numbers -/
theorem u_eqL {a b : Addr} {ns ms : List Int} (ha : LI K H a ns) (hb : LI K H b ms) (h : Q (.bl (decide (ns = ms))) H) : rEqD K (.ref a) (.ref b) H Q := by
  refine ⟨_, _, .lst ha (dp_ints ns), .lst hb (dp_ints ms), shaped_ints ns, shaped_ints ms, ?_⟩
  have e : PyData.eqv (.list (ns.map PyData.int)) (.list (ms.map PyData.int)) = decide (ns = ms) := by rw [PyData.eqv]; exact eqv_ints ns ms
  rw [e]
  exact h
end
theorem li_of {K : PySem.W.Frag} {H : Hp} {a : Addr} {ns : List Int} (h : H a = some (.lst (ns.map V.int))) : LI K H a ns := Or.inl (Or.inl h)
end Sr
namespace Sr
open PySem PySem.Spec PyProof.Rows L2
theorem bytes_of {l : List Int} (h : l.all (PySem.W.Codec.inInt 0 255) = true) : ∃ b : List UInt8, bI b = l ∧ (l.map fun (z : Int) => UInt8.ofNat z.toNat) = b := by
  refine ⟨_, ?_, rfl⟩
  rw [List.all_eq_true] at h
  unfold bI
  rw [List.map_map]
  refine (List.map_congr_left fun z hz => ?_).trans (List.map_id l)
  have q := h z hz
  unfold PySem.W.Codec.inInt at q
  rw [Bool.and_eq_true, decide_eq_true_eq, decide_eq_true_eq] at q
  show ((UInt8.ofNat z.toNat).toNat : Int) = z
  rw [UInt8.toNat_ofNat', Nat.mod_eq_of_lt (by omega)]
  omega
end Sr
/-! # More words: lists of truths, reversed tuples, stretches -/
namespace Sr
open PySem PySem.Spec PyProof.Rows L2
theorem piRK {X : Cx} (K : PySem.W.Frag) {tg e : Expr} {te : TE} {p pos : Pos} (hg : Gl X "reversed") (hm : X.mg "reversed" = none) (he : PE X e te) (hK : X.K = K := by rfl) (hs : starEach [e] X.env = (false, eval e X.env) :: starEach [] X.env := by rfl) :
    PI X tg (.Call (.Name "reversed" p) [e] [] pos) (RT.iRevA K te) := by subst hK; exact RT.pi_revA hg hm he hs
theorem ixN_at {n j : Nat} (hj : j < n) : ixN n (j : Int) = some j := by
  unfold ixN
  rw [if_pos (by omega), if_pos (by omega), Int.toNat_natCast]
abbrev LB (K : PySem.W.Frag) (H : Hp) (a : Addr) (bs : List Bool) : Prop := SqL K H a (bs.map V.bl)
section
variable {σ : L2.St} {H : Hp} {K : PySem.W.Frag} {nx : L2.St → Hp → Prop} {rt Q : VK} {bk ct : L2.St → Hp → Prop} {tb : TS} {te to ti : TE} {g : TG} {v x y : V}
theorem u_iRev {R : It → Hp → Prop} (h : te σ H fun v H1 => ∃ (a : Addr) (xs : List V), v = .ref a ∧ ((SqL K H1 a xs ∧ R (Itv K a xs.length) H1) ∨ (SqT K H1 a xs ∧ R (RT.ItvT K a xs.length) H1))) : RT.iRevA K te σ H R := h
theorem f_revT {a : Addr} {xs : List V} (Pv : Nat → L2.St → Hp → Prop) (hs0 : SqT K H a xs) (h0 : Pv 0 σ H) (hl : ∀ i σ H, i ≤ xs.length → Pv i σ H → SqT K H a xs)
    (hs : ∀ i x σ H, i < xs.length → xs[xs.length - 1 - i]? = some x → Pv i σ H → g x σ H fun σ2 H2 => tb ⟨Pv (i + 1), rt, nx, Pv (i + 1)⟩ σ2 H2) (hd : ∀ σ H, Pv xs.length σ H → nx σ H) :
    ∃ (a' : Addr) (ys : List V), V.ref a = .ref a' ∧ ((SqL K H a' ys ∧ ForJ (Itv K a' ys.length) g tb ⟨nx, rt, bk, ct⟩ σ H) ∨ (SqT K H a' ys ∧ ForJ (RT.ItvT K a' ys.length) g tb ⟨nx, rt, bk, ct⟩ σ H)) := by
  refine ⟨a, xs, rfl, Or.inr ⟨hs0, ?_⟩⟩
  refine ⟨fun i m σ H => m = xs.length - i ∧ i ≤ xs.length ∧ Pv i σ H, ⟨xs.length, by simp, Nat.zero_le _, h0⟩, ?_⟩
  rintro i m σ H ⟨rfl, hi, p⟩
  have q := hl i σ H hi p
  by_cases hlt : i < xs.length
  · refine .inr ⟨⟨hlt, xs, xs[xs.length - 1 - i]'(by omega), q, List.getElem?_eq_getElem (by omega)⟩, Pv (i + 1), fun σ' H' p' => ⟨xs.length - (i + 1), by omega, rfl, hlt, p'⟩, fun x H' y => ?_⟩
    obtain ⟨e, y⟩ := y
    subst e
    exact hs i x σ _ hlt (y xs q) p
  · have e : i = xs.length := by omega
    subst e
    exact .inl ⟨Nat.le_refl _, hd σ H p⟩
theorem u_rep1 {l : Addr} {z : Int} {n : Nat} (hl : H l = some (.lst [v])) (e : z = (n : Int)) (b : n ≤ 1000000) (h : ∀ p, H p = none → Q (.ref p) (upd H p (.lst (List.replicate n v)))) : rRep (.ref l) (.int z) H Q := by
  subst e
  refine ⟨l, (n : Int), [v], rfl, rfl, hl, by omega, by omega, ?_, fun p hp => ?_⟩
  · show 1 * (n : Int).toNat ≤ sizeLine
    rw [Int.toNat_natCast, Nat.one_mul]
    exact size_small b
  · rw [Int.toNat_natCast, List.flatten_replicate_singleton]
    exact h p hp
theorem u_gsub {t : TSet} {N : L2.St → Hp → Prop} (h : to σ H fun o H1 => ti σ H1 fun i H2 => t o i v H2 fun H3 => N σ H3) : gSub to ti t v σ H N := h
theorem u_setL {p : Addr} {xs : List V} {k : Int} {j : Nat} {N : Hp → Prop} (e : k = (j : Int)) (hp : H p = some (.lst xs)) (hj : j < xs.length) (h : N (upd H p (.lst (xs.set j v)))) : rSetL (.ref p) (.int k) v H N := by
  subst e
  exact ⟨p, xs, (j : Int), j, rfl, rfl, hp, ixN_at hj, h⟩
end
theorem at_bl {bs : List Bool} {i : Int} {j : Nat} {b : Bool} (e : i = (j : Int)) (h : bs[j]? = some b) : atI (bs.map V.bl) i = some (.bl b) := by
  subst e
  refine atI_nat ?_
  rw [List.getElem?_map, h]; rfl
theorem map_bl_len (bs : List Bool) : (bs.map V.bl).length = bs.length := List.length_map ..
theorem map_set_bl (bs : List Bool) (j : Nat) (b : Bool) : (bs.map V.bl).set j (.bl b) = (bs.set j b).map V.bl := by rw [List.map_set]
theorem inV_true : ∀ bs : List Bool, inV (.bl true) (bs.map V.bl) = bs.contains true
  | [] => rfl
  | b :: bs => by
    show (eqV (.bl b) (.bl true) || inV (.bl true) (bs.map V.bl)) = _
    rw [inV_true bs]
    cases b <;> rfl
theorem flat_bl : ∀ bs : List Bool, (bs.map V.bl).all flatV = true
  | [] => rfl
  | _ :: bs => by rw [List.map_cons, List.all_cons, flat_bl bs]; rfl
/-- xs[lo:hi] with natural ends -/
theorem cut_nat (xs : List V) (lo hi : Nat) : cutV xs (some (lo : Int)) (some (hi : Int)) = (xs.drop lo).take (hi - lo) := by
  unfold cutV
  rw [HT.sIx_nat, HT.sIx_nat]
  apply List.ext_getElem?
  intro i
  rw [List.getElem?_take, List.getElem?_take, List.getElem?_drop, List.getElem?_drop]
  by_cases h : lo + i < xs.length
  · by_cases h2 : i < hi - lo
    · rw [if_pos (by omega), if_pos h2, Nat.min_eq_left (by omega)]
    · rw [if_neg (by omega), if_neg h2]
  · rw [List.getElem?_eq_none (l := xs) (i := lo + i) (by omega)]
    by_cases h3 : i < min hi xs.length - min lo xs.length
    · rw [if_pos h3, List.getElem?_eq_none (by omega)]
      by_cases h2 : i < hi - lo
      · rw [if_pos h2]
      · rw [if_neg h2]
    · rw [if_neg h3]
      by_cases h2 : i < hi - lo
      · rw [if_pos h2]
      · rw [if_neg h2]
end Sr
/-! # More words: texts, extend -/
namespace Sr
open PySem PySem.Spec PyProof.Rows L2
section
variable {σ : L2.St} {H : Hp} {K : PySem.W.Frag} {nx : L2.St → Hp → Prop} {rt Q : VK} {bk ct : L2.St → Hp → Prop} {te ta : TE} {tt : TT} {g : TG}
theorem u_iStr {R : It → Hp → Prop} (h : te σ H fun v H1 => ∃ x, v = .str x ∧ R (Its x) H1) : iStr te σ H R := h
theorem c_str {x : Str} {vs : List Nat} (Pv : Addr → Nat → Hp → Prop) (h0 : ∀ D, H D = none → Pv D 0 (upd H D (.lst [])))
    (hs : ∀ D (i : Nat) c H', H D = none → x.cps[i]? = some c → Pv D i H' → LcT g tt te vs σ D (.str ⟨#[c]⟩) H' (Pv D (i + 1))) (hd : ∀ D H', H D = none → Pv D x.cps.size H' → Q (.ref D) H') :
    ∃ x', V.str x = .str x' ∧ LcJ (Its x') g tt te vs σ Q H := ⟨x, rfl, fun D hD => lc_it walk_str (Pv D) (h0 D hD) (fun i H' hi hp => trivial) (fun i v H1 H' _ hp y => by
    obtain ⟨rfl, c, hc, rfl⟩ := y
    exact hs D i c _ hD hc hp) (fun H' hp => hd D H' hD hp)⟩
theorem u_ext {tr : TA} (h : ta σ H fun x H1 => tyV K "list" x H1 ∧ tr σ H1 fun xs H2 => rExtend x xs H2 Q) : tBM K "list" rExtend ta tr σ H Q := h
theorem u_extend {l b : Addr} {xs zs : List V} (hl : H l = some (.lst xs)) (hb : H b = some (.lst zs)) (hz : xs.length + zs.length ≤ sizeLine) (h : Q .non (upd H l (.lst (xs ++ zs)))) : rExtend (.ref l) [.ref b] H Q := ⟨l, b, xs, zs, rfl, rfl, hl, hb, hz, h⟩
end
end Sr
namespace Sr
open PySem PySem.Spec PyProof.Rows L2
def topS (i : Nat) : Stmt := PySem.Challenge.pw_segmentrules_s08_put.main.body.getD i (.Pass ⟨0, 0, 0, 0⟩)
abbrev s_further : Stmt := topS 2
theorem sc_further : FnScope ["octet"] ["octet"] (defScope s_further) := ⟨rfl, rfl, rfl, by decide +kernel, rfl, by decide +kernel, by decide +kernel⟩
abbrev s_least_behind : Stmt := topS 3
theorem sc_least_behind : FnScope ["got"] ["got"] (defScope s_least_behind) := ⟨rfl, rfl, rfl, by decide +kernel, rfl, by decide +kernel, by decide +kernel⟩
abbrev s_most_behind : Stmt := topS 4
theorem sc_most_behind : FnScope ["got"] ["got"] (defScope s_most_behind) := ⟨rfl, rfl, rfl, by decide +kernel, rfl, by decide +kernel, by decide +kernel⟩
abbrev s_code_of : Stmt := topS 5
theorem sc_code_of : FnScope ["got", "code", "octet"] ["got"] (defScope s_code_of) := ⟨rfl, rfl, rfl, by decide +kernel, rfl, by decide +kernel, by decide +kernel⟩
abbrev s_character_at : Stmt := topS 6
theorem sc_character_at : FnScope ["octets", "at", "end", "many", "got", "place"] ["octets", "at", "end"] (defScope s_character_at) := ⟨rfl, rfl, rfl, by decide +kernel, rfl, by decide +kernel, by decide +kernel⟩
abbrev s_octets_of : Stmt := topS 7
theorem sc_octets_of : FnScope ["code"] ["code"] (defScope s_octets_of) := ⟨rfl, rfl, rfl, by decide +kernel, rfl, by decide +kernel, by decide +kernel⟩
abbrev s_is_within : Stmt := topS 8
theorem sc_is_within : FnScope ["code", "ranges", "low", "high"] ["code", "ranges"] (defScope s_is_within) := ⟨rfl, rfl, rfl, by decide +kernel, rfl, by decide +kernel, by decide +kernel⟩
abbrev s_can_begin : Stmt := topS 27
theorem sc_can_begin : FnScope ["number", "low", "high", "first", "last"] ["number", "low", "high"] (defScope s_can_begin) := ⟨rfl, rfl, rfl, by decide +kernel, rfl, by decide +kernel, by decide +kernel⟩
abbrev s_is_begun : Stmt := topS 28
theorem sc_is_begun : FnScope ["number", "spans", "low", "high"] ["number", "spans"] (defScope s_is_begun) := ⟨rfl, rfl, rfl, by decide +kernel, rfl, by decide +kernel, by decide +kernel⟩
abbrev s_read_rules : Stmt := topS 30
theorem sc_read_rules : FnScope ["octets", "fault"] ["octets"] (defScope s_read_rules) := ⟨rfl, rfl, rfl, by decide +kernel, rfl, by decide +kernel, by decide +kernel⟩
abbrev s_are_items_beyond : Stmt := topS 31
theorem sc_are_items_beyond : FnScope ["items", "atom", "least", "most"] ["items"] (defScope s_are_items_beyond) := ⟨rfl, rfl, rfl, by decide +kernel, rfl, by decide +kernel, by decide +kernel⟩
abbrev s_is_beyond : Stmt := topS 32
theorem sc_is_beyond : FnScope ["ruling", "classes", "listed", "number", "is_cut", "wants_begin", "before", "behind", "wants_end"] ["ruling"] (defScope s_is_beyond) := ⟨rfl, rfl, rfl, by decide +kernel, rfl, by decide +kernel, by decide +kernel⟩
abbrev s_width_of : Stmt := topS 34
theorem sc_width_of : FnScope ["atom"] ["atom"] (defScope s_width_of) := ⟨rfl, rfl, rfl, by decide +kernel, rfl, by decide +kernel, by decide +kernel⟩
abbrev s_stands_at : Stmt := topS 35
theorem sc_stands_at : FnScope ["codes", "atom", "classes", "wanted", "ranges", "code", "at"] ["codes", "atom", "classes"] (defScope s_stands_at) := ⟨rfl, rfl, rfl, by decide +kernel, rfl, by decide +kernel, by decide +kernel⟩
abbrev s_moved_on : Stmt := topS 36
theorem sc_moved_on : FnScope ["places", "stands", "width", "found", "at"] ["places", "stands", "width"] (defScope s_moved_on) := ⟨rfl, rfl, rfl, by decide +kernel, rfl, by decide +kernel, by decide +kernel⟩
abbrev s_moved_back : Stmt := topS 37
theorem sc_moved_back : FnScope ["places", "stands", "width", "found", "at"] ["places", "stands", "width"] (defScope s_moved_back) := ⟨rfl, rfl, rfl, by decide +kernel, rfl, by decide +kernel, by decide +kernel⟩
abbrev s_past_item : Stmt := topS 38
theorem sc_past_item : FnScope ["codes", "item", "classes", "places", "is_back", "atom", "least", "most", "stands", "width", "found", "here", "turn", "one", "other"] ["codes", "item", "classes", "places", "is_back"] (defScope s_past_item) := ⟨rfl, rfl, rfl, by decide +kernel, rfl, by decide +kernel, by decide +kernel⟩
abbrev s_places_before : Stmt := topS 39
theorem sc_places_before : FnScope ["codes", "rule", "classes", "is_cut", "wants_begin", "before", "behind", "wants_end", "found", "item", "at"] ["codes", "rule", "classes"] (defScope s_places_before) := ⟨rfl, rfl, rfl, by decide +kernel, rfl, by decide +kernel, by decide +kernel⟩
abbrev s_places_behind : Stmt := topS 40
theorem sc_places_behind : FnScope ["codes", "rule", "classes", "is_cut", "wants_begin", "before", "behind", "wants_end", "found", "item", "at"] ["codes", "rule", "classes"] (defScope s_places_behind) := ⟨rfl, rfl, rfl, by decide +kernel, rfl, by decide +kernel, by decide +kernel⟩
abbrev s_deciding : Stmt := topS 41
theorem sc_deciding : FnScope ["codes", "ruling", "classes", "listed", "found", "number", "rule", "ends", "begins", "at"] ["codes", "ruling"] (defScope s_deciding) := ⟨rfl, rfl, rfl, by decide +kernel, rfl, by decide +kernel, by decide +kernel⟩
abbrev s_tag_at : Stmt := topS 52
theorem sc_tag_at : FnScope ["octets", "at", "end", "number", "place", "turn"] ["octets", "at", "end"] (defScope s_tag_at) := ⟨rfl, rfl, rfl, by decide +kernel, rfl, by decide +kernel, by decide +kernel⟩
abbrev s_piece_at : Stmt := topS 53
theorem sc_piece_at : FnScope ["octets", "at", "end", "code", "behind"] ["octets", "at", "end"] (defScope s_piece_at) := ⟨rfl, rfl, rfl, by decide +kernel, rfl, by decide +kernel, by decide +kernel⟩
abbrev s_read_row : Stmt := topS 54
theorem sc_read_row : FnScope ["octets", "begin", "end", "pieces", "at", "piece"] ["octets", "begin", "end"] (defScope s_read_row) := ⟨rfl, rfl, rfl, by decide +kernel, rfl, by decide +kernel, by decide +kernel⟩
abbrev s_piece_octets : Stmt := topS 55
theorem sc_piece_octets : FnScope ["piece", "kind", "number", "figure"] ["piece"] (defScope s_piece_octets) := ⟨rfl, rfl, rfl, by decide +kernel, rfl, by decide +kernel, by decide +kernel⟩
abbrev s_row_octets : Stmt := topS 56
theorem sc_row_octets : FnScope ["pieces", "found", "piece"] ["pieces"] (defScope s_row_octets) := ⟨rfl, rfl, rfl, by decide +kernel, rfl, by decide +kernel, by decide +kernel⟩
abbrev s_codes_of : Stmt := topS 58
theorem sc_codes_of : FnScope ["pieces", "kind", "number"] ["pieces"] (defScope s_codes_of) := ⟨rfl, rfl, rfl, by decide +kernel, rfl, by decide +kernel, by decide +kernel⟩
abbrev s_cut_place : Stmt := topS 59
theorem sc_cut_place : FnScope ["pieces", "before", "behind", "at"] ["pieces", "before", "behind"] (defScope s_cut_place) := ⟨rfl, rfl, rfl, by decide +kernel, rfl, by decide +kernel, by decide +kernel⟩
abbrev s_cuts_of : Stmt := topS 60
theorem sc_cuts_of : FnScope ["pieces", "ruling", "spots", "decided", "found", "place", "at", "piece"] ["pieces", "ruling"] (defScope s_cuts_of) := ⟨rfl, rfl, rfl, by decide +kernel, rfl, by decide +kernel, by decide +kernel⟩
abbrev s_trimmed : Stmt := topS 61
theorem sc_trimmed : FnScope ["pieces", "begin", "end"] ["pieces", "begin", "end"] (defScope s_trimmed) := ⟨rfl, rfl, rfl, by decide +kernel, rfl, by decide +kernel, by decide +kernel⟩
abbrev s_has_more : Stmt := topS 62
theorem sc_has_more : FnScope ["pieces", "kind", "number"] ["pieces"] (defScope s_has_more) := ⟨rfl, rfl, rfl, by decide +kernel, rfl, by decide +kernel, by decide +kernel⟩
abbrev s_segments_of : Stmt := topS 63
theorem sc_segments_of : FnScope ["pieces", "ruling", "found", "begin", "end"] ["pieces", "ruling"] (defScope s_segments_of) := ⟨rfl, rfl, rfl, by decide +kernel, rfl, by decide +kernel, by decide +kernel⟩
abbrev s_document_segments : Stmt := topS 64
theorem sc_document_segments : FnScope ["lines", "ruling", "found", "line", "is_raw", "content", "begin", "end"] ["lines", "ruling"] (defScope s_document_segments) := ⟨rfl, rfl, rfl, by decide +kernel, rfl, by decide +kernel, by decide +kernel⟩
abbrev s_is_wrong : Stmt := topS 66
theorem sc_is_wrong : FnScope ["seen", "kind", "number"] ["seen", "kind", "number"] (defScope s_is_wrong) := ⟨rfl, rfl, rfl, by decide +kernel, rfl, by decide +kernel, by decide +kernel⟩
abbrev s_halves_of : Stmt := topS 67
theorem sc_halves_of : FnScope ["pieces", "left", "pile", "seen", "kind", "number"] ["pieces"] (defScope s_halves_of) := ⟨rfl, rfl, rfl, by decide +kernel, rfl, by decide +kernel, by decide +kernel⟩
abbrev s_is_paired : Stmt := topS 68
theorem sc_is_paired : FnScope ["pieces"] ["pieces"] (defScope s_is_paired) := ⟨rfl, rfl, rfl, by decide +kernel, rfl, by decide +kernel, by decide +kernel⟩
abbrev s_tags_of : Stmt := topS 69
theorem sc_tags_of : FnScope ["pieces", "piece"] ["pieces"] (defScope s_tags_of) := ⟨rfl, rfl, rfl, by decide +kernel, rfl, by decide +kernel, by decide +kernel⟩
abbrev s_is_fitting : Stmt := topS 70
theorem sc_is_fitting : FnScope ["target", "segment", "halves"] ["target", "segment"] (defScope s_is_fitting) := ⟨rfl, rfl, rfl, by decide +kernel, rfl, by decide +kernel, by decide +kernel⟩
abbrev s_line_end : Stmt := topS 77
theorem sc_line_end : FnScope ["octets", "at", "place"] ["octets", "at"] (defScope s_line_end) := ⟨rfl, rfl, rfl, by decide +kernel, rfl, by decide +kernel, by decide +kernel⟩
abbrev s_early_fault : Stmt := topS 78
theorem sc_early_fault : FnScope ["octets", "at", "end", "many"] ["octets", "at", "end", "many"] (defScope s_early_fault) := ⟨rfl, rfl, rfl, by decide +kernel, rfl, by decide +kernel, by decide +kernel⟩
abbrev s_raw_fault : Stmt := topS 79
theorem sc_raw_fault : FnScope ["octets", "at", "end", "place", "many", "code"] ["octets", "at", "end"] (defScope s_raw_fault) := ⟨rfl, rfl, rfl, by decide +kernel, rfl, by decide +kernel, by decide +kernel⟩
abbrev s_read_line : Stmt := topS 80
theorem sc_read_line : FnScope ["octets", "at", "end", "pieces", "fault"] ["octets", "at", "end"] (defScope s_read_line) := ⟨rfl, rfl, rfl, by decide +kernel, rfl, by decide +kernel, by decide +kernel⟩
abbrev s_read_document : Stmt := topS 81
theorem sc_read_document : FnScope ["octets", "lines", "at", "end", "fault", "line"] ["octets"] (defScope s_read_document) := ⟨rfl, rfl, rfl, by decide +kernel, rfl, by decide +kernel, by decide +kernel⟩
abbrev s_sign_fault : Stmt := topS 86
theorem sc_sign_fault : FnScope ["octets", "at", "end"] ["octets", "at", "end"] (defScope s_sign_fault) := ⟨rfl, rfl, rfl, by decide +kernel, rfl, by decide +kernel, by decide +kernel⟩
abbrev s_read_target : Stmt := topS 87
theorem sc_read_target : FnScope ["octets", "at", "end", "segment", "fault", "pieces"] ["octets", "at", "end", "segment"] (defScope s_read_target) := ⟨rfl, rfl, rfl, by decide +kernel, rfl, by decide +kernel, by decide +kernel⟩
abbrev s_read_targets : Stmt := topS 88
theorem sc_read_targets : FnScope ["octets", "segments", "found", "at", "end", "target", "kind", "place"] ["octets", "segments"] (defScope s_read_targets) := ⟨rfl, rfl, rfl, by decide +kernel, rfl, by decide +kernel, by decide +kernel⟩
abbrev s_target_row : Stmt := topS 89
theorem sc_target_row : FnScope ["pieces", "places", "targets", "found", "at", "begin", "end", "target"] ["pieces", "places", "targets"] (defScope s_target_row) := ⟨rfl, rfl, rfl, by decide +kernel, rfl, by decide +kernel, by decide +kernel⟩
abbrev s_target_document : Stmt := topS 90
theorem sc_target_document : FnScope ["lines", "parts", "targets", "found", "first", "line", "is_raw", "content", "octets", "behind", "places", "row", "text", "number", "begin", "end", "pieces"] ["lines", "parts", "targets"] (defScope s_target_document) := ⟨rfl, rfl, rfl, by decide +kernel, rfl, by decide +kernel, by decide +kernel⟩
abbrev s_put : Stmt := topS 95
theorem sc_put : FnScope ["t", "d", "x", "ruling", "fault", "lines", "parts", "targets", "kind", "place", "octets", "part"] ["t", "d", "x"] (defScope s_put) := ⟨rfl, rfl, rfl, by decide +kernel, rfl, by decide +kernel, by decide +kernel⟩
abbrev s_Fault___init__ : Stmt := inClass (topS 26) 0
theorem sc_Fault___init__ : FnScope ["self", "place"] ["self", "place"] (defScope s_Fault___init__) := ⟨rfl, rfl, rfl, by decide +kernel, rfl, by decide +kernel, by decide +kernel⟩
abbrev s_Reading___init__ : Stmt := inClass (topS 29) 0
theorem sc_Reading___init__ : FnScope ["self", "octets"] ["self", "octets"] (defScope s_Reading___init__) := ⟨rfl, rfl, rfl, by decide +kernel, rfl, by decide +kernel, by decide +kernel⟩
abbrev s_Reading_here : Stmt := inClass (topS 29) 1
theorem sc_Reading_here : FnScope ["self"] ["self"] (defScope s_Reading_here) := ⟨rfl, rfl, rfl, by decide +kernel, rfl, by decide +kernel, by decide +kernel⟩
abbrev s_Reading_take : Stmt := inClass (topS 29) 2
theorem sc_Reading_take : FnScope ["self", "octet"] ["self", "octet"] (defScope s_Reading_take) := ⟨rfl, rfl, rfl, by decide +kernel, rfl, by decide +kernel, by decide +kernel⟩
abbrev s_Reading_number : Stmt := inClass (topS 29) 3
theorem sc_Reading_number : FnScope ["self", "spans", "found", "more", "low", "high"] ["self", "spans"] (defScope s_Reading_number) := ⟨rfl, rfl, rfl, by decide +kernel, rfl, by decide +kernel, by decide +kernel⟩
abbrev s_Reading_ranges : Stmt := inClass (topS 29) 4
theorem sc_Reading_ranges : FnScope ["self", "found", "least", "low", "high"] ["self"] (defScope s_Reading_ranges) := ⟨rfl, rfl, rfl, by decide +kernel, rfl, by decide +kernel, by decide +kernel⟩
abbrev s_Reading_read_classes : Stmt := inClass (topS 29) 5
theorem sc_Reading_read_classes : FnScope ["self", "least", "number"] ["self"] (defScope s_Reading_read_classes) := ⟨rfl, rfl, rfl, by decide +kernel, rfl, by decide +kernel, by decide +kernel⟩
abbrev s_Reading_certain : Stmt := inClass (topS 29) 6
theorem sc_Reading_certain : FnScope ["self", "codes", "code", "behind"] ["self"] (defScope s_Reading_certain) := ⟨rfl, rfl, rfl, by decide +kernel, rfl, by decide +kernel, by decide +kernel⟩
abbrev s_Reading_atom : Stmt := inClass (topS 29) 7
theorem sc_Reading_atom : FnScope ["self", "sign", "number"] ["self"] (defScope s_Reading_atom) := ⟨rfl, rfl, rfl, by decide +kernel, rfl, by decide +kernel, by decide +kernel⟩
abbrev s_Reading_item : Stmt := inClass (topS 29) 8
theorem sc_Reading_item : FnScope ["self", "atom", "least"] ["self"] (defScope s_Reading_item) := ⟨rfl, rfl, rfl, by decide +kernel, rfl, by decide +kernel, by decide +kernel⟩
abbrev s_Reading_items_before : Stmt := inClass (topS 29) 9
theorem sc_Reading_items_before : FnScope ["self", "found"] ["self"] (defScope s_Reading_items_before) := ⟨rfl, rfl, rfl, by decide +kernel, rfl, by decide +kernel, by decide +kernel⟩
abbrev s_Reading_items_behind : Stmt := inClass (topS 29) 10
theorem sc_Reading_items_behind : FnScope ["self", "found"] ["self"] (defScope s_Reading_items_behind) := ⟨rfl, rfl, rfl, by decide +kernel, rfl, by decide +kernel, by decide +kernel⟩
abbrev s_Reading_read_rule : Stmt := inClass (topS 29) 11
theorem sc_Reading_read_rule : FnScope ["self", "is_cut", "wants_begin", "before", "behind", "wants_end"] ["self"] (defScope s_Reading_read_rule) := ⟨rfl, rfl, rfl, by decide +kernel, rfl, by decide +kernel, by decide +kernel⟩
abbrev s_Reading_whole : Stmt := inClass (topS 29) 12
theorem sc_Reading_whole : FnScope ["self", "found"] ["self"] (defScope s_Reading_whole) := ⟨rfl, rfl, rfl, by decide +kernel, rfl, by decide +kernel, by decide +kernel⟩
structure Txt (K : PySem.W.Frag) (mg : Str → Option Value) where
  C : Addr
  CF : Addr
  cl_Reading : Cls K C
  na_octets : NoAttr K C "octets"
  na_at : NoAttr K C "at"
  na_classes : NoAttr K C "classes"
  g_Reading : mg "Reading" = some (.ref C)
  g_Fault : mg "Fault" = some (.ref CF)
  ox : OexC K CF
  xf : XfC K CF
  xp : PySem.W.findIn K (.ref CF) "place" = some none
  exm : PySem.W.exmOne K (.ref CF) (.ref CF) = some true
  aI : Addr
  fI : FuncData
  FI : Fun K "__init__" "Fault.__init__" s_Fault___init__ aI fI
  bI : Binds K fI ["self", "place"] []
  ix : PySem.W.findIn K (.ref CF) "__init__" = some (some (.ref aI))
  tx : PySem.W.typeIn K (.ref aI) = some (.type "function")
  m_Reading___init__ : Mt K C "__init__" "Reading.__init__" s_Reading___init__ ["self", "octets"]
  m_Reading_here : Mt K C "here" "Reading.here" s_Reading_here ["self"]
  m_Reading_take : Mt K C "take" "Reading.take" s_Reading_take ["self", "octet"]
  m_Reading_number : Mt K C "number" "Reading.number" s_Reading_number ["self", "spans"]
  m_Reading_ranges : Mt K C "ranges" "Reading.ranges" s_Reading_ranges ["self"]
  m_Reading_read_classes : Mt K C "read_classes" "Reading.read_classes" s_Reading_read_classes ["self"]
  m_Reading_certain : Mt K C "certain" "Reading.certain" s_Reading_certain ["self"]
  m_Reading_atom : Mt K C "atom" "Reading.atom" s_Reading_atom ["self"]
  m_Reading_item : Mt K C "item" "Reading.item" s_Reading_item ["self"]
  m_Reading_items_before : Mt K C "items_before" "Reading.items_before" s_Reading_items_before ["self"]
  m_Reading_items_behind : Mt K C "items_behind" "Reading.items_behind" s_Reading_items_behind ["self"]
  m_Reading_read_rule : Mt K C "read_rule" "Reading.read_rule" s_Reading_read_rule ["self"]
  m_Reading_whole : Mt K C "whole" "Reading.whole" s_Reading_whole ["self"]
  mk_Reading : Mk K C m_Reading___init__.a
  c_BLANK : ∃ t, mg "BLANK" = some (.int 32 t)
  c_ANY : ∃ t, mg "ANY" = some (.int 0 t)
  c_OF_CLASS : ∃ t, mg "OF_CLASS" = some (.int 1 t)
  c_CERTAIN : ∃ t, mg "CERTAIN" = some (.int 2 t)
  c_GREATEST : ∃ t, mg "GREATEST" = some (.int 1114111 t)
  c_LAST_CLASS : ∃ t, mg "LAST_CLASS" = some (.int 15 t)
  c_MOST_TIMES : ∃ t, mg "MOST_TIMES" = some (.int 32 t)
  c_LINE_END_ruletexts : ∃ t, mg "LINE_END_ruletexts" = some (.int 10 t)
  c_QUOTE : ∃ t, mg "QUOTE" = some (.int 34 t)
  c_CLASS_SIGN : ∃ t, mg "CLASS_SIGN" = some (.int 37 t)
  c_STAR : ∃ t, mg "STAR" = some (.int 42 t)
  c_PLUS : ∃ t, mg "PLUS" = some (.int 43 t)
  c_MINUS : ∃ t, mg "MINUS" = some (.int 45 t)
  c_DOT : ∃ t, mg "DOT" = some (.int 46 t)
  c_BEGINNING : ∃ t, mg "BEGINNING" = some (.int 94 t)
  c_BAR : ∃ t, mg "BAR" = some (.int 124 t)
  c_ENDING : ∃ t, mg "ENDING" = some (.int 36 t)
  c_MOST_PIECES : ∃ t, mg "MOST_PIECES" = some (.int 4096 t)
  c_CHARACTER : ∃ t, mg "CHARACTER" = some (.int 0 t)
  c_OPENS : ∃ t, mg "OPENS" = some (.int 1 t)
  c_CLOSES : ∃ t, mg "CLOSES" = some (.int 2 t)
  c_ALONE : ∃ t, mg "ALONE" = some (.int 3 t)
  c_CURLY : ∃ t, mg "CURLY" = some (.int 123 t)
  c_CURLY_END : ∃ t, mg "CURLY_END" = some (.int 125 t)
  a_KINDS : Addr
  c_KINDS : mg "KINDS" = some (.ref a_KINDS)
  d_KINDS : KindsAt K a_KINDS
  a_MARKS : Addr
  c_MARKS : mg "MARKS" = some (.ref a_MARKS)
  d_MARKS : MarksAt K a_MARKS
  c_MOST_LINES : ∃ t, mg "MOST_LINES" = some (.int 16384 t)
  c_MOST_PARAGRAPH : ∃ t, mg "MOST_PARAGRAPH" = some (.int 65536 t)
  c_LINE_END_documents : ∃ t, mg "LINE_END_documents" = some (.int 10 t)
  c_RAW : ∃ t, mg "RAW" = some (.int 124 t)
  c_PARAGRAPH : ∃ t, mg "PARAGRAPH" = some (.int 62 t)
  c_MOST_DOCUMENT : ∃ t, mg "MOST_DOCUMENT" = some (.int 262144 t)
  c_TAKEN : ∃ t, mg "TAKEN" = some (.int 61 t)
  c_KEPT : ∃ t, mg "KEPT" = some (.int 45 t)
  c_MOST_RULES_TEXT : ∃ t, mg "MOST_RULES_TEXT" = some (.int 65536 t)
  c_TOO_GREAT : ∃ t, mg "TOO_GREAT" = some (.int (-6) t)
  c_WRONG : ∃ t, mg "WRONG" = some (.int (-5) t)
  b_len : mg "len" = none
  b_max : mg "max" = none
  b_int : mg "int" = none
  b_tuple : mg "tuple" = none
  b_list : mg "list" = none
  b_range : mg "range" = none
  b_enumerate : mg "enumerate" = none
  b_zip : mg "zip" = none
  b_reversed : mg "reversed" = none
  b_sorted : mg "sorted" = none
  b_ord : mg "ord" = none
  b_str : mg "str" = none
  b_ValueError : mg "ValueError" = none
  f_further : Fn K mg "further" s_further ["octet"]
  f_least_behind : Fn K mg "least_behind" s_least_behind ["got"]
  f_most_behind : Fn K mg "most_behind" s_most_behind ["got"]
  f_code_of : Fn K mg "code_of" s_code_of ["got"]
  f_character_at : Fn K mg "character_at" s_character_at ["octets", "at", "end"]
  f_octets_of : Fn K mg "octets_of" s_octets_of ["code"]
  f_is_within : Fn K mg "is_within" s_is_within ["code", "ranges"]
  f_can_begin : Fn K mg "can_begin" s_can_begin ["number", "low", "high"]
  f_is_begun : Fn K mg "is_begun" s_is_begun ["number", "spans"]
  f_read_rules : Fn K mg "read_rules" s_read_rules ["octets"]
  f_are_items_beyond : Fn K mg "are_items_beyond" s_are_items_beyond ["items"]
  f_is_beyond : Fn K mg "is_beyond" s_is_beyond ["ruling"]
  f_width_of : Fn K mg "width_of" s_width_of ["atom"]
  f_stands_at : Fn K mg "stands_at" s_stands_at ["codes", "atom", "classes"]
  f_moved_on : Fn K mg "moved_on" s_moved_on ["places", "stands", "width"]
  f_moved_back : Fn K mg "moved_back" s_moved_back ["places", "stands", "width"]
  f_past_item : Fn K mg "past_item" s_past_item ["codes", "item", "classes", "places", "is_back"]
  f_places_before : Fn K mg "places_before" s_places_before ["codes", "rule", "classes"]
  f_places_behind : Fn K mg "places_behind" s_places_behind ["codes", "rule", "classes"]
  f_deciding : Fn K mg "deciding" s_deciding ["codes", "ruling"]
  f_tag_at : Fn K mg "tag_at" s_tag_at ["octets", "at", "end"]
  f_piece_at : Fn K mg "piece_at" s_piece_at ["octets", "at", "end"]
  f_read_row : Fn K mg "read_row" s_read_row ["octets", "begin", "end"]
  f_piece_octets : Fn K mg "piece_octets" s_piece_octets ["piece"]
  f_row_octets : Fn K mg "row_octets" s_row_octets ["pieces"]
  f_codes_of : Fn K mg "codes_of" s_codes_of ["pieces"]
  f_cut_place : Fn K mg "cut_place" s_cut_place ["pieces", "before", "behind"]
  f_cuts_of : Fn K mg "cuts_of" s_cuts_of ["pieces", "ruling"]
  f_trimmed : Fn K mg "trimmed" s_trimmed ["pieces", "begin", "end"]
  f_has_more : Fn K mg "has_more" s_has_more ["pieces"]
  f_segments_of : Fn K mg "segments_of" s_segments_of ["pieces", "ruling"]
  f_document_segments : Fn K mg "document_segments" s_document_segments ["lines", "ruling"]
  f_is_wrong : Fn K mg "is_wrong" s_is_wrong ["seen", "kind", "number"]
  f_halves_of : Fn K mg "halves_of" s_halves_of ["pieces"]
  f_is_paired : Fn K mg "is_paired" s_is_paired ["pieces"]
  f_tags_of : Fn K mg "tags_of" s_tags_of ["pieces"]
  f_is_fitting : Fn K mg "is_fitting" s_is_fitting ["target", "segment"]
  f_line_end : Fn K mg "line_end" s_line_end ["octets", "at"]
  f_early_fault : Fn K mg "early_fault" s_early_fault ["octets", "at", "end", "many"]
  f_raw_fault : Fn K mg "raw_fault" s_raw_fault ["octets", "at", "end"]
  f_read_line : Fn K mg "read_line" s_read_line ["octets", "at", "end"]
  f_read_document : Fn K mg "read_document" s_read_document ["octets"]
  f_sign_fault : Fn K mg "sign_fault" s_sign_fault ["octets", "at", "end"]
  f_read_target : Fn K mg "read_target" s_read_target ["octets", "at", "end", "segment"]
  f_read_targets : Fn K mg "read_targets" s_read_targets ["octets", "segments"]
  f_target_row : Fn K mg "target_row" s_target_row ["pieces", "places", "targets"]
  f_target_document : Fn K mg "target_document" s_target_document ["lines", "parts", "targets"]
  f_put : Fn K mg "put" s_put ["t", "d", "x"]
end Sr
local macro_rules | `(tactic| walk_at "u1") => `(tactic| first
  | with_reducible (first
    | apply Sr.u_seq | apply Sr.u_if | apply Sr.u_next | apply Sr.u_ret | apply Sr.u_asg | apply Sr.u_drop | apply Sr.u_gn
    | apply Sr.u_c | apply Sr.u_op | apply Sr.u_un | apply Sr.u_U | apply Sr.u_I0 | apply Sr.u_eqI | apply Sr.u_neI | apply Sr.u_test | apply Sr.u_tB | apply Sr.u_bl
    | apply Sr.u_and | apply Sr.u_or | apply Sr.u_not | apply Sr.u_ifx | apply Sr.u_chain | apply Sr.u_nil | apply Sr.u_cons | apply Sr.u_tup | apply Sr.u_lst | apply Sr.u_cb | apply Sr.u_call
    | apply Sr.u_sl | apply Sr.u_part | apply Sr.u_nopart | apply Sr.u_pint | apply Sr.u_for | apply Sr.u_iL | apply Sr.u_iT | apply Sr.u_iR1 | apply Sr.u_iR2 | apply Sr.u_iE | apply Sr.u_iZ | apply Sr.u_lc | apply Sr.u_yes | apply Sr.u_gc | apply Sr.u_g0 | apply Sr.u_dnewK | apply Sr.u_dnewT | apply Sr.u_dput | apply Sr.u_dget | apply Sr.u_din | apply Sr.u_dnin | apply Sr.u_methS | apply Sr.u_make | apply Sr.u_xf | apply Sr.u_fld | apply Sr.u_sfld | apply Sr.u_meth | apply Sr.u_rz | apply Sr.u_andV | apply Sr.u_orV | apply Sr.u_notV | apply Sr.u_par | apply Sr.u_par3 | apply Sr.u_vw | apply Sr.u_vwz | apply Sr.u_app
    | apply Sr.ite_t | apply Sr.ite_f | apply Sr.ite_nt | apply Sr.ite_nf)
  | ((with_reducible refine' Sr.u_var ?uve ?_); (case uve => exact rfl)))
local macro_rules | `(tactic| walk_at "u") => `(tactic| repeat (walk_at "u1"))
local macro_rules | `(tactic| walk_at "ui") => `(tactic| ((repeat ((fail_if_success (with_reducible refine Sr.id_if ?_)); walk_at "u1")); refine Sr.u_if ?_))
local macro_rules | `(tactic| walk_at "un") => `(tactic| repeat ((fail_if_success (with_reducible refine Sr.id_seq ?_)); walk_at "u1"))
local macro_rules | `(tactic| walk_at "us") => `(tactic| repeat' (first | walk_at "u1" | ((with_reducible refine Sr.ite_d ?_ ?_) <;> intro _) | ((with_reducible refine Sr.ite_nd ?_ ?_) <;> intro _)))
namespace Sr
open PySem PySem.Spec PyProof.Rows L2
open Fh (Bytes)
section
variable {P : Program} {w : World} {K : PySem.W.Frag} {mg : Str → Option Value} {base : Heap}
def sp_further (K : PySem.W.Frag) : Sp := fun vs H Q _ => ∃ i : Int, vs = [.int i] ∧ ∀ r, r = Sm.furtherM i → Q (.int r) H
theorem ok_further (T : Txt K mg) : FnOk P w K mg base CX0 1 T.f_further.a T.f_further.fd ["octet"] (sp_further K) := by
  refine T.f_further.F.ok sc_further (fun vs H Q E h => ?_) (fun cdv A outer s H vs Q E hr h => ⟨_, (pss_cons (ps_if (pt_chain op_le op_le pe_int (pv 0) pe_int) (pss_one (ps_ret pe_int)) pss_nil)
 (pss_cons (ps_if (pt_chain op_le op_le pe_int (pv 0) pe_int) (pss_one (ps_ret pe_int)) pss_nil)
 (pss_cons (ps_if (pt_chain op_le op_le pe_int (pv 0) pe_int) (pss_one (ps_ret pe_int)) pss_nil)
 (pss_one (ps_ret (pe_ifExp (pt_chain op_le op_le pe_int (pv 0) pe_int) pe_int (pe_un un_neg pe_int))))))), ?_⟩)
  · obtain ⟨_, rfl, _⟩ := h; rfl
  · obtain ⟨i, rfl, k⟩ := h
    walk_at "us"
    all_goals (refine k _ ?_; simp only [Sm.furtherM]; omega)
/-- of a list of bytes that isn't empty -/
def sp_got (f : Bytes → Int) (K : PySem.W.Frag) : Sp := fun vs H Q _ => ∃ (a : Addr) (c : UInt8) (b : Bytes), vs = [.ref a] ∧ LI K H a (bI (c :: b)) ∧ b.length ≤ 3 ∧ ∀ H' r, Same H H' → r = f (c :: b) → Q (.int r) H'
def sp_least_behind := sp_got Sm.leastM
def sp_most_behind := sp_got Sm.mostM
def sp_code_of := sp_got Sm.codeM
theorem leastM_long {b : Bytes} (h : 1 < b.length) : Sm.leastM b = 128 := by
  match b, h with
  | _ :: _ :: _, _ => rfl
theorem one_of {c : UInt8} {b : Bytes} (h : ¬ (1 : Int) < ((c :: b).length : Nat)) : b = [] := by
  cases b with
  | nil => rfl
  | cons x y => exact absurd (show (1 : Int) < ((c :: x :: y).length : Nat) by simp only [List.length_cons]; omega) h
theorem ok_least_behind (T : Txt K mg) : FnOk P w K mg base CX0 1 T.f_least_behind.a T.f_least_behind.fd ["got"] (sp_least_behind K) := by
  refine T.f_least_behind.F.ok sc_least_behind (fun vs H Q E h => ?_) (fun cdv A outer s H vs Q E hr h => ⟨_, (pss_cons (ps_if (pt_cmpR op_gt (pe_callB (cr_len K) rfl T.b_len PySem.boot_len (pa_cons (pv 0) pa_nil)) pe_int (nomark _)) (pss_one (ps_ret pe_int)) pss_nil)
 (pss_cons (ps_if (pt_cmpR (inK K) (pe_ix (ixLK K) (pv 0) pe_int (fun _ _ => rfl)) (pe_tup (pa_cons pe_int (pa_cons pe_int pa_nil))) (by rfl)) (pss_one (ps_ret pe_int)) pss_nil)
 (pss_one (ps_ret (pe_ifExp (pt_cmpR op_eq (pe_ix (ixLK K) (pv 0) pe_int (fun _ _ => rfl)) pe_int (nomark _)) pe_int pe_int))))), ?_⟩)
  · obtain ⟨_, _, _, rfl, _⟩ := h; rfl
  · obtain ⟨a, c, b, rfl, hL, hb, k⟩ := h
    walk_at "u"
    refine u_lenL hL ?_
    walk_at "u"
    rw [map_int_len, bI_len]
    refine ite_d (fun h1 => ?_) (fun h1 => ?_)
    · walk_at "u"
      exact k _ _ (Same.refl _) (leastM_long (by omega)).symm
    · walk_at "u"
      obtain rfl := one_of h1
      refine u_ixL hL (at_int (j := 0) rfl (bI_at rfl)) ?_
      walk_at "u"
      refine ⟨by show 2 ≤ sizeLine; decide, fun p hp => ?_⟩
      refine u_in (Or.inr (SqT.of upd_same)) rfl rfl ?_
      walk_at "u"
      refine ite_b (fun h2 => ?_) (fun h2 => ?_)
      · walk_at "u"
        refine k _ _ (same_new hp) ?_
        simp only [inV, List.any_cons, eqV, List.any_nil, Bool.or_false, Bool.or_eq_true, beq_iff_eq] at h2
        simp only [Sm.leastM]
        rw [if_pos (by omega)]
      · walk_at "u"
        refine u_ixL (same_l (same_new hp) hL) (at_int (j := 0) rfl (bI_at rfl)) ?_
        walk_at "us"
        all_goals (
          refine k _ _ (same_new hp) ?_
          simp only [inV, List.any_cons, eqV, List.any_nil, Bool.or_false, Bool.or_eq_false_iff, beq_eq_false_iff_ne] at h2
          simp only [Sm.leastM]
          rw [if_neg (by omega)]
          split <;> omega)
theorem le3 {α : Type} : ∀ (b : List α), b.length ≤ 3 → b = [] ∨ (∃ x, b = [x]) ∨ (∃ x y, b = [x, y]) ∨ ∃ x y z, b = [x, y, z]
  | [], _ => Or.inl rfl
  | [x], _ => Or.inr (Or.inl ⟨x, rfl⟩)
  | [x, y], _ => Or.inr (Or.inr (Or.inl ⟨x, y, rfl⟩))
  | [x, y, z], _ => Or.inr (Or.inr (Or.inr ⟨x, y, z, rfl⟩))
  | _ :: _ :: _ :: _ :: _, h => by simp only [List.length_cons] at h; omega
theorem bI_two {b : Bytes} (h : bI b = [239, 191]) : ∃ c d : UInt8, b = [c, d] ∧ c.toNat = 239 ∧ d.toNat = 191 := by
  match b, h with
  | [c, d], h =>
    have h1 : (c.toNat : Int) = 239 ∧ (d.toNat : Int) = 191 := by
      have : [(c.toNat : Int), (d.toNat : Int)] = [239, 191] := h
      simpa using this
    exact ⟨c, d, rfl, by omega, by omega⟩
  | [], h => cases h
  | [_], h => exact absurd (congrArg List.length h) (by simp [bI])
  | _ :: _ :: _ :: _, h => exact absurd (congrArg List.length h) (by simp [bI])
theorem ok_most_behind (T : Txt K mg) : FnOk P w K mg base CX0 1 T.f_most_behind.a T.f_most_behind.fd ["got"] (sp_most_behind K) := by
  refine T.f_most_behind.F.ok sc_most_behind (fun vs H Q E h => ?_) (fun cdv A outer s H vs Q E hr h => ⟨_, (pss_cons (ps_if (pt_cmpR op_eq (pe_callB (cr_len K) rfl T.b_len PySem.boot_len (pa_cons (pv 0) pa_nil)) pe_int (nomark _)) (pss_cons (ps_if (pt_cmpR op_eq (pe_ix (ixLK K) (pv 0) pe_int (fun _ _ => rfl)) pe_int (nomark _)) (pss_one (ps_ret pe_int)) pss_nil)
 (pss_one (ps_ret (pe_ifExp (pt_cmpR op_eq (pe_ix (ixLK K) (pv 0) pe_int (fun _ _ => rfl)) pe_int (nomark _)) pe_int pe_int)))) pss_nil)
 (pss_cons (ps_if (pt_cmpR (eqDK K hr.units) (pv 0) (pe_lst (pa_cons pe_int (pa_cons pe_int pa_nil))) (nomark _)) (pss_one (ps_ret pe_int)) pss_nil)
 (pss_cons (ps_if (PW.pt (pw_and (pt_cmpR op_eq (pe_callB (cr_len K) rfl T.b_len PySem.boot_len (pa_cons (pv 0) pa_nil)) pe_int (nomark _)) (pw_and (pt_cmpR op_eq (pe_op op_and (pe_ix (ixLK K) (pv 0) pe_int (fun _ _ => rfl)) pe_int) pe_int (nomark _)) (pw_and1 (pt_cmpR op_eq (pe_ix (ixLK K) (pv 0) pe_int (fun _ _ => rfl)) pe_int (nomark _)))))) (pss_one (ps_ret pe_int)) pss_nil)
 (pss_one (ps_ret pe_int))))), ?_⟩)
  · obtain ⟨_, _, _, rfl, _⟩ := h; rfl
  · obtain ⟨a, c, b, rfl, hL, hb, k⟩ := h
    walk_at "u"
    refine u_lenL hL ?_
    walk_at "u"
    rw [map_int_len, bI_len]
    refine ite_d (fun h1 => ?_) (fun h1 => ?_)
    · obtain rfl : b = [] := one_of (c := c) (by omega)
      walk_at "u"
      refine u_ixL hL (at_int (j := 0) rfl (bI_at rfl)) ?_
      walk_at "u"
      refine ite_d (fun h2 => ?_) (fun h2 => ?_)
      · walk_at "u"
        refine k _ _ (Same.refl _) ?_
        simp only [Sm.mostM]
        rw [if_pos (by omega)]
      · walk_at "u"
        refine u_ixL hL (at_int (j := 0) rfl (bI_at rfl)) ?_
        walk_at "us"
        all_goals (
          refine k _ _ (Same.refl _) ?_
          simp only [Sm.mostM]
          rw [if_neg (by omega)]
          split <;> omega)
    · walk_at "u"
      refine ⟨by show 2 ≤ sizeLine; decide, fun p hp => ?_⟩
      have s1 := same_new (o := .lst [.int 239, .int 191]) hp
      refine u_eqL (ms := [239, 191]) (same_l s1 hL) (li_of upd_same) ?_
      walk_at "u"
      refine ite_d (fun h2 => ?_) (fun h2 => ?_)
      · walk_at "u"
        refine k _ _ s1 ?_
        obtain ⟨c', d', e, e1, e2⟩ := bI_two h2
        rw [e]
        simp only [Sm.mostM]
        rw [if_pos ⟨e1, e2⟩]
      · walk_at "u"
        refine u_lenL (same_l s1 hL) ?_
        walk_at "u"
        rw [map_int_len, bI_len]
        have e0 : ∀ d, b = [d] → Sm.mostM (c :: b) = 191 := fun d e => by
          subst e
          simp only [Sm.mostM]
          rw [if_neg (fun q => h2 (by simp only [bI, List.map_cons, List.map_nil, q.1, q.2]; rfl))]
        refine ite_d (fun h3 => ?_) (fun h3 => ?_)
        · obtain ⟨d, e, rfl⟩ : ∃ d e, b = [d, e] := by
            match b, h3 with
            | [d, e], _ => exact ⟨d, e, rfl⟩
          walk_at "u"
          refine u_ixL (same_l s1 hL) (at_int (j := 1) rfl (bI_at rfl)) ?_
          walk_at "u"
          rw [bitAnd_m4]
          refine ite_d (fun h4 => ?_) (fun h4 => ?_)
          · walk_at "u"
            refine u_ixL (same_l s1 hL) (at_int (j := 2) rfl (bI_at rfl)) ?_
            walk_at "u"
            refine ite_d (fun h5 => ?_) (fun h5 => ?_)
            · walk_at "u"
              refine k _ _ s1 ?_
              simp only [Sm.mostM]
              rw [if_pos (by omega)]
            · walk_at "u"
              refine k _ _ s1 ?_
              simp only [Sm.mostM]
              rw [if_neg (by omega)]
          · walk_at "u"
            refine k _ _ s1 ?_
            simp only [Sm.mostM]
            rw [if_neg (by omega)]
        · walk_at "u"
          refine k _ _ s1 ?_
          have e : (191 : Int) = Sm.mostM (c :: b) := by
            rcases le3 b hb with rfl | ⟨x, rfl⟩ | ⟨x, y, rfl⟩ | ⟨x, y, z, rfl⟩
            · exact absurd rfl h1
            · exact (e0 x rfl).symm
            · exact absurd rfl h3
            · rfl
          exact e
end
end Sr
namespace Sr
open PySem PySem.Spec PyProof.Rows L2
open Fh (Bytes)
section
variable {P : Program} {w : World} {K : PySem.W.Frag} {mg : Str → Option Value} {base : Heap}
theorem cut_one (c : UInt8) (b : Bytes) : cutV ((bI (c :: b)).map V.int) (some 1) none = (bI b).map V.int := by
  unfold cutV
  have e : HT.sIx ((bI (c :: b)).map V.int).length 0 (some 1) = 1 := by
    have := HT.sIx_nat ((bI (c :: b)).map V.int).length 0 1
    rw [show ((1 : Nat) : Int) = 1 from rfl] at this
    rw [this, map_int_len, bI_len, List.length_cons]
    exact Nat.min_eq_left (by omega)
  rw [e, HT.sIx_none]
  show (((bI b).map V.int)).take _ = _
  rw [List.take_of_length_le]
  rw [map_int_len, map_int_len, bI_len, bI_len, List.length_cons]
  omega
def cstep (a : Int) (o : UInt8) : Int := a * 64 + o.toNat - 128
def codeB (n : Nat) : Int := if n = 2 then 192 else if n = 3 then 224 else 240
theorem codeM_fold (c : UInt8) (b : Bytes) (h : b ≠ []) (hb : b.length ≤ 3) : Sm.codeM (c :: b) = b.foldl cstep (c.toNat - codeB (b.length + 1)) := by
  rcases le3 b hb with rfl | ⟨x, rfl⟩ | ⟨x, y, rfl⟩ | ⟨x, y, z, rfl⟩
  · exact absurd rfl h
  · rfl
  · rfl
  · rfl
theorem ok_code_of (T : Txt K mg) : FnOk P w K mg base CX0 1 T.f_code_of.a T.f_code_of.fd ["got"] (sp_code_of K) := by
  refine T.f_code_of.F.ok sc_code_of (fun vs H Q E h => ?_) (fun cdv A outer s H vs Q E hr h => ⟨_, (pss_cons (ps_if (pt_cmpR op_eq (pe_callB (cr_len K) rfl T.b_len PySem.boot_len (pa_cons (pv 0) pa_nil)) pe_int (nomark _)) (pss_one (ps_ret (pe_ix (ixLK K) (pv 0) pe_int (fun _ _ => rfl)))) pss_nil)
 (pss_cons (ps_set (i := 1) sc_code_of.nd rfl (Or.inl rfl) (pe_op op_sub (pe_ix (ixLK K) (pv 0) pe_int (fun _ _ => rfl)) (pe_ix (ixTK K) (pe_tup (pa_cons pe_int (pa_cons pe_int (pa_cons pe_int pa_nil)))) (pe_op op_sub (pe_callB (cr_len K) rfl T.b_len PySem.boot_len (pa_cons (pv 0) pa_nil)) pe_int) (fun _ _ => rfl))))
 (pss_cons (ps_for PassesOwn.never rfl (piLK K (pe_slice (slLK K) (pv 0) (po_some pe_int) po_none)) (pg_name (i := 2) sc_code_of.nd rfl (Or.inl rfl)) (pss_one (ps_set (i := 1) sc_code_of.nd rfl (Or.inl rfl) (pe_op op_sub (pe_op op_add (pe_op op_mul (pv 1) pe_int) (pv 2)) pe_int))))
 (pss_one (ps_ret (pv 1)))))), ?_⟩)
  · obtain ⟨_, _, _, rfl, _⟩ := h; rfl
  · obtain ⟨a, c, b, rfl, hL, hb, k⟩ := h
    have hc := Sm.byte_lt c
    walk_at "u"
    refine u_lenL hL ?_
    walk_at "u"
    rw [map_int_len, bI_len]
    refine ite_d (fun h1 => ?_) (fun h1 => ?_)
    · obtain rfl : b = [] := one_of (c := c) (by omega)
      walk_at "u"
      refine u_ixL hL (at_int (j := 0) rfl (bI_at rfl)) ?_
      exact k _ _ (Same.refl _) rfl
    · have hne : b ≠ [] := fun q => by subst q; exact h1 rfl
      walk_at "u"
      refine u_ixL hL (at_int (j := 0) rfl (bI_at rfl)) ?_
      walk_at "u"
      refine ⟨by show 3 ≤ sizeLine; decide, fun p hp => ?_⟩
      have s1 := same_new (o := .tup [.int 192, .int 224, .int 240]) hp
      walk_at "u"
      refine u_lenL (same_l s1 hL) ?_
      walk_at "u"
      rw [map_int_len, bI_len]
      have ex : atI ([.int 192, .int 224, .int 240] : List V) (((c :: b).length : Int) - 2) = some (.int (codeB (b.length + 1))) := by
        rcases le3 b hb with rfl | ⟨x, rfl⟩ | ⟨x, y, rfl⟩ | ⟨x, y, z, rfl⟩
        · exact absurd rfl hne
        · rfl
        · rfl
        · rfl
      refine u_ixT (SqT.of upd_same) ex ?_
      walk_at "u"
      walk_at "u"
      refine u_slL (same_l s1 hL) fun q hq => ?_
      rw [cut_one]
      have s2 := same_then (o := .lst ((bI b).map V.int)) s1 hq
      refine f_listI (K := K) (a := q) (ns := bI b) (fun i σ H' => ∃ v, σ = [some (.ref a), some (.int ((b.take i).foldl cstep (c.toNat - codeB (b.length + 1)))), v] ∧ H' = _) (li_of upd_same) ⟨_, rfl, rfl⟩ (fun i σ H' _ ⟨_, _, e⟩ => by rw [e]; exact li_of upd_same) ?_ ?_
      · rintro i z σ H' hz ⟨v, rfl, rfl⟩
        unfold bI at hz
        rw [List.getElem?_map] at hz
        obtain ⟨o, ho, rfl⟩ := Option.map_eq_some_iff.mp hz
        walk_at "u"
        refine u_I (Or.inr ⟨by decide, by decide⟩) ?_
        walk_at "u"
        refine ⟨some (.int o.toNat), ?_, rfl⟩
        show [_, _, _] = [_, _, _]
        have e : b.take (i + 1) = b.take i ++ [o] := by
          rw [List.take_add_one, ho]; rfl
        rw [e, List.foldl_append]
        rfl
      · rintro σ H' ⟨v, rfl, rfl⟩
        rw [bI_len, List.take_length]
        walk_at "u"
        exact k _ _ s2 (codeM_fold c b hne hb).symm
end
end Sr
namespace Sr
open PySem PySem.Spec PyProof.Rows L2
open Fh (Bytes)
/-- the bytes from a place to another one -/
def cutB (b : Bytes) (i e : Nat) : Bytes := (b.take e).drop i
theorem cutB_nil {b : Bytes} {i e : Nat} (h : e ≤ i) : cutB b i e = [] := by
  unfold cutB
  refine List.drop_eq_nil_of_le ?_
  rw [List.length_take]
  omega
theorem cutB_len {b : Bytes} {i e : Nat} (h : e ≤ b.length) : (cutB b i e).length = e - i := by
  unfold cutB
  rw [List.length_drop, List.length_take]
  omega
theorem cutB_get {b : Bytes} {i e j : Nat} (h : i + j < e) : (cutB b i e)[j]? = b[i + j]? := by
  unfold cutB
  rw [List.getElem?_drop, List.getElem?_take, if_pos h]
theorem cutB_cons {b : Bytes} {i e : Nat} (h : i < e) (he : e ≤ b.length) : ∃ c, b[i]? = some c ∧ cutB b i e = c :: cutB b (i + 1) e := by
  have hl : i < (b.take e).length := by rw [List.length_take]; omega
  refine ⟨b[i]'(by omega), List.getElem?_eq_getElem (by omega), ?_⟩
  unfold cutB
  rw [List.drop_eq_getElem_cons hl, List.getElem_take]
theorem cutB_drop {b : Bytes} {i e n : Nat} : (cutB b i e).drop n = cutB b (i + n) e := by
  unfold cutB
  rw [List.drop_drop]
def chRes (i : Nat) (x : Except Nat (Int × Nat)) : Int × Int := match x with
  | .ok v => (v.1, ((i + v.2 : Nat) : Int))
  | .error k => (-1, ((i + k : Nat) : Int))
section
variable {P : Program} {w : World} {K : PySem.W.Frag} {mg : Str → Option Value} {base : Heap}
def sp_character_at (K : PySem.W.Frag) : Sp := fun vs H Q _ => ∃ (a : Addr) (b : Bytes) (i e : Nat), vs = [.ref a, .int i, .int e] ∧ LI K H a (bI b) ∧ i ≤ e ∧ e ≤ b.length ∧ b.length ≤ 1000000 ∧
  ∀ p H' x, Same H H' → x = chRes i (Sm.charM (cutB b i e)) → H' p = some (.tup [.int x.1, .int x.2]) → Q (.ref p) H'
theorem take_one {c : UInt8} {r : Bytes} {i : Nat} {o : UInt8} (h : r[i]? = some o) : c :: r.take (i + 1) = (c :: r.take i) ++ [o] := by
  rw [List.take_add_one, h]; rfl
theorem ok_character_at (T : Txt K mg) : FnOk P w K mg base CX0 2 T.f_character_at.a T.f_character_at.fd ["octets", "at", "end"] (sp_character_at K) := by
  refine T.f_character_at.F.ok sc_character_at (fun vs H Q E h => ?_) (fun cdv A outer s H vs Q E hr h => ⟨_, (pss_cons (ps_set (i := 3) sc_character_at.nd rfl (Or.inl rfl) (pe_ifExp (pt_cmpR op_eq (pv 1) (pv 2) (nomark _)) (pe_un un_neg pe_int) (pe_call (ok_further T) (hr.mono (by decide)) rfl T.f_further.g T.f_further.F.kp T.f_further.b .nil pass0 (pa_cons (pe_ix (ixLK K) (pv 0) (pv 1) (fun _ _ => rfl)) pa_nil))))
 (pss_cons (ps_if (pt_cmpR op_lt (pv 3) pe_int (nomark _)) (pss_one (ps_ret (pe_tup (pa_cons (pe_un un_neg pe_int) (pa_cons (pv 1) pa_nil))))) pss_nil)
 (pss_cons (ps_set (i := 4) sc_character_at.nd rfl (Or.inl rfl) (pe_lst (pa_cons (pe_ix (ixLK K) (pv 0) (pv 1) (fun _ _ => rfl)) pa_nil)))
 (pss_cons (ps_for PassesOwn.never rfl (pi_range2 rfl T.b_range (pa_cons (pe_op op_add (pv 1) pe_int) (pa_cons (pe_op op_add (pe_op op_add (pv 1) pe_int) (pv 3)) pa_nil))) (pg_name (i := 5) sc_character_at.nd rfl (Or.inl rfl)) (pss_cons (ps_if (PW.pt (pw_or (pt_cmpR op_eq (pv 5) (pv 2) (nomark _)) (pw_or1 (pt_not (pt_chain op_le op_le (pe_call (ok_least_behind T) (hr.mono (by decide)) rfl T.f_least_behind.g T.f_least_behind.F.kp T.f_least_behind.b .nil pass0 (pa_cons (pv 4) pa_nil)) (pe_ix (ixLK K) (pv 0) (pv 5) (fun _ _ => rfl)) (pe_call (ok_most_behind T) (hr.mono (by decide)) rfl T.f_most_behind.g T.f_most_behind.F.kp T.f_most_behind.b .nil pass0 (pa_cons (pv 4) pa_nil))))))) (pss_one (ps_ret (pe_tup (pa_cons (pe_un un_neg pe_int) (pa_cons (pv 5) pa_nil))))) pss_nil)
 (pss_one (ps_expr (bmK K PySem.F.plainAttrs_list PySem.F.slot_list_append PySem.F.type_list_append mt_append (pv 4) (pa_cons (pe_ix (ixLK K) (pv 0) (pv 5) (fun _ _ => rfl)) pa_nil))))))
 (pss_one (ps_ret (pe_tup (pa_cons (pe_call (ok_code_of T) (hr.mono (by decide)) rfl T.f_code_of.g T.f_code_of.F.kp T.f_code_of.b .nil pass0 (pa_cons (pv 4) pa_nil)) (pa_cons (pe_op op_add (pe_op op_add (pv 1) pe_int) (pv 3)) pa_nil))))))))), ?_⟩)
  · obtain ⟨_, _, _, _, rfl, _⟩ := h; rfl
  · obtain ⟨a, b, i, e, rfl, hL, hi, he, hbl, k⟩ := h
    walk_at "u"
    refine ite_d (fun h1 => ?_) (fun h1 => ?_)
    · have h1' : i = e := by omega
      walk_at "u"
      refine ite_d (fun h2 => ?_) (fun h2 => absurd (show (-1 : Int) < 0 by decide) h2)
      walk_at "u"
      refine ⟨by show 2 ≤ sizeLine; decide, fun p hp => ?_⟩
      refine k p _ _ (same_new hp) rfl ?_
      rw [cutB_nil (by omega)]
      exact upd_same
    · have hlt : i < e := by omega
      obtain ⟨c, hc, hcut⟩ := cutB_cons hlt he
      have hcb := Sm.byte_lt c
      rw [hcut] at k
      have hr : (cutB b (i + 1) e).length = e - (i + 1) := cutB_len he
      have hg : ∀ j, i + 1 + j < e → (cutB b (i + 1) e)[j]? = b[i + 1 + j]? := fun j hj => cutB_get hj
      generalize cutB b (i + 1) e = r at k hr hg
      walk_at "u"
      refine u_ixL hL (at_int (j := i) rfl (bI_at hc)) ?_
      walk_at "u"
      refine ⟨_, rfl, fun m hm => ?_⟩
      walk_at "u"
      refine ite_d (fun h2 => ?_) (fun h2 => ?_)
      · walk_at "u"
        refine ⟨by show 2 ≤ sizeLine; decide, fun p hp => ?_⟩
        refine k p _ _ (same_new hp) rfl ?_
        simp only [Sm.charM]
        rw [if_pos (by omega)]
        exact upd_same
      · walk_at "u"
        refine u_ixL hL (at_int (j := i) rfl (bI_at hc)) ?_
        walk_at "u"
        refine ⟨by show 1 ≤ sizeLine; decide, fun g hg0 => ?_⟩
        have s1 := same_new (o := .lst [.int c.toNat]) hg0
        walk_at "u"
        have hm3 : 0 ≤ m ∧ m ≤ 3 := by
          rcases Sm.further_cases (c := c.toNat) (by omega) with h | h | h | h <;> omega
        refine f_rng2 (fun j σ H' => ∃ v, σ = [some (.ref a), some (.int i), some (.int e), some (.int m), some (.ref g), v] ∧ Same H H' ∧ j ≤ r.length ∧ H' g = some (.lst ((bI (c :: r.take j)).map V.int)) ∧ Sm.charLoop m.toNat [c] r = Sm.charLoop (m.toNat - j) (c :: r.take j) (r.drop j))
          ⟨by omega, by omega, by omega, by omega⟩ ⟨none, rfl, s1, Nat.zero_le _, upd_same, rfl⟩ ?_ ?_
        · rintro j σ H' hj ⟨v, rfl, s2, hjr, hgl, hloop⟩
          have hj' : j < m.toNat := by omega
          have hlen : (c :: r.take j).length = j + 1 := by rw [List.length_cons, List.length_take]; omega
          walk_at "u"
          refine ite_d (fun h3 => ?_) (fun h3 => ?_)
          · walk_at "u"
            refine ⟨by show 2 ≤ sizeLine; decide, fun p hp => ?_⟩
            have hjr2 : j = r.length := by omega
            have e1 : Sm.charLoop m.toNat [c] r = .error (j + 1) := by
              rw [hloop, hjr2, List.drop_length]
              have : m.toNat - r.length = (m.toNat - r.length - 1) + 1 := by omega
              rw [this]
              show Except.error (c :: r.take r.length).length = _
              rw [← hjr2, hlen]
            refine k p _ (-1, (i : Int) + 1 + j) (same_then s2 hp) ?_ upd_same
            simp only [Sm.charM]
            rw [if_neg (by omega), ← hm, e1]
            exact Prod.ext rfl (by show (i : Int) + 1 + j = ((i + (j + 1) : Nat) : Int); omega)
          · walk_at "u"
            have hjr2 : j < r.length := by omega
            obtain ⟨o, ho⟩ : ∃ o, r[j]? = some o := ⟨r[j], List.getElem?_eq_getElem hjr2⟩
            have ho2 : b[i + 1 + j]? = some o := by rw [← hg j (by omega)]; exact ho
            have hdr : r.drop j = o :: r.drop (j + 1) := by
              rw [List.drop_eq_getElem_cons hjr2]
              rw [List.getElem?_eq_getElem hjr2] at ho
              rw [Option.some.inj ho]
            have hL2 := same_l s2 hL
            have hgl2 : LI K H' g (bI (c :: r.take j)) := li_of hgl
            refine ⟨g, c, r.take j, rfl, hgl2, by rw [List.length_take]; omega, fun H3 x s3 hx => ?_⟩
            walk_at "u"
            refine u_ixL (same_l s3 hL2) (at_int (j := i + 1 + j) (by omega) (bI_at ho2)) ?_
            walk_at "u"
            have hst : Sm.charLoop (m.toNat - j) (c :: r.take j) (r.drop j) = if Sm.leastM (c :: r.take j) ≤ o.toNat ∧ (o.toNat : Int) ≤ Sm.mostM (c :: r.take j) then Sm.charLoop (m.toNat - (j + 1)) (c :: r.take (j + 1)) (r.drop (j + 1)) else .error (j + 1) := by
              rw [hdr]
              have : m.toNat - j = (m.toNat - (j + 1)) + 1 := by omega
              rw [this, take_one ho]
              show (if _ then _ else Except.error (c :: r.take j).length) = _
              rw [hlen]
            have bad : ∀ H4, Same H H4 → ¬ (Sm.leastM (c :: r.take j) ≤ o.toNat ∧ (o.toNat : Int) ≤ Sm.mostM (c :: r.take j)) → ∀ p, H4 p = none → Q (.ref p) (upd H4 p (.tup [.int (-1), .int ((i : Int) + 1 + j)])) := fun H4 s4 hn p hp => by
              refine k p _ (-1, (i : Int) + 1 + j) (same_then s4 hp) ?_ upd_same
              rw [if_neg hn] at hst
              simp only [Sm.charM]
              rw [if_neg (by omega), ← hm, hloop, hst]
              exact Prod.ext rfl (by show (i : Int) + 1 + j = ((i + (j + 1) : Nat) : Int); omega)
            refine ite_d (fun h4 => ?_) (fun h4 => ?_)
            · walk_at "u"
              refine ⟨g, c, r.take j, rfl, same_l s3 hgl2, by rw [List.length_take]; omega, fun H4 y s4 hy => ?_⟩
              walk_at "u"
              refine ite_nd (fun h5 => ?_) (fun h5 => ?_)
              · walk_at "u"
                refine ⟨by show 2 ≤ sizeLine; decide, fun p hp => ?_⟩
                exact bad _ (s2.trans (s3.trans s4)) (fun q => h5 (by rw [hy]; exact q.2)) p hp
              · walk_at "u"
                refine ⟨u_lty (s4 _ _ (s3 _ _ hgl)), ?_⟩
                walk_at "u"
                refine u_ixL (same_l s4 (same_l s3 hL2)) (at_int (j := i + 1 + j) (by omega) (bI_at ho2)) ?_
                walk_at "u"
                refine u_append (s4 _ _ (s3 _ _ hgl)) (by rw [List.length_map, bI_len, hlen]; exact size_less (by omega)) ?_
                rw [if_pos ⟨by rw [← hx]; exact h4, by rw [← hy]; exact h5⟩] at hst
                refine ⟨_, rfl, same_mut (s2.trans (s3.trans s4)) hg0, hjr2, ?_, hloop.trans hst⟩
                rw [upd_same, take_one ho, bI_app, List.map_append]
                rfl
            · walk_at "u"
              refine ⟨by show 2 ≤ sizeLine; decide, fun p hp => ?_⟩
              exact bad _ (s2.trans s3) (fun q => h4 (by rw [hx]; exact q.1)) p hp
        · rintro σ H' ⟨v, rfl, s2, hjr, hgl, hloop⟩
          have en : ((i : Int) + 1 + m - (i + 1)).toNat = m.toNat := by congr 1; omega
          rw [en] at hjr hgl hloop
          walk_at "u"
          refine ⟨g, c, r.take m.toNat, rfl, li_of hgl, by rw [List.length_take]; omega, fun H3 x s3 hx => ?_⟩
          walk_at "u"
          refine ⟨by show 2 ≤ sizeLine; decide, fun p hp => ?_⟩
          refine k p _ (x, (i : Int) + 1 + m) (same_then (s2.trans s3) hp) ?_ upd_same
          rw [Nat.sub_self] at hloop
          simp only [Sm.charM]
          rw [if_neg (by omega), ← hm, hloop]
          exact Prod.ext hx (by show (i : Int) + 1 + m = ((i + (m.toNat + 1) : Nat) : Int); omega)
end
end Sr
namespace Sr
open PySem PySem.Spec PyProof.Rows L2
open Fh (Bytes)
/-! ### the object that is read from, the error -/
/-- all but what stands at x -/
def Keep (x : Addr) (H H' : Hp) : Prop := ∀ p o, H p = some o → p ≠ x → H' p = some o
theorem Keep.refl {x : Addr} (H : Hp) : Keep x H H := fun _ _ h _ => h
theorem Keep.trans {x : Addr} {H H1 H2 : Hp} (a : Keep x H H1) (b : Keep x H1 H2) : Keep x H H2 := fun p o h n => b p o (a p o h n) n
theorem Keep.same {x : Addr} {H H' : Hp} (s : Same H H') : Keep x H H' := fun p o h _ => s p o h
theorem Keep.upd {x : Addr} {H : Hp} {o : HO} : Keep x H (upd H x o) := fun p u h n => by rw [upd_ne n]; exact h
theorem Keep.new {x p : Addr} {H : Hp} {o : HO} (h : H p = none) : Keep x H (L2.upd H p o) := Keep.same (same_new h)
theorem Keep.mut {x p : Addr} {H H' : Hp} {o : HO} (e : Keep x H H') (h : H p = none) : Keep x H (L2.upd H' p o) := fun q u hq n => by
  rw [upd_ne (ne_of_none hq h)]
  exact e q u hq n
theorem Keep.l {K : PySem.W.Frag} {x a : Addr} {H H' : Hp} {xs : List V} {C dx : Addr} {fs : List (Str × V)} (e : Keep x H H') (hx : H x = some (.ins C dx fs)) (h : SqL K H a xs) : SqL K H' a xs := by
  rcases h with h | h
  · refine Or.inl ?_
    rcases h with h | ⟨o, h⟩
    · exact Or.inl (e a _ h (fun z => by rw [z, hx] at h; cases h))
    · exact Or.inr ⟨o, e a _ h (fun z => by rw [z, hx] at h; cases h)⟩
  · exact Or.inr h
theorem Keep.t {K : PySem.W.Frag} {x a : Addr} {H H' : Hp} {xs : List V} {C dx : Addr} {fs : List (Str × V)} (e : Keep x H H') (hx : H x = some (.ins C dx fs)) (h : SqT K H a xs) : SqT K H' a xs := by
  rcases h with h | h
  · refine Or.inl ?_
    rcases h with h | ⟨o, h⟩
    · exact Or.inl (e a _ h (fun z => by rw [z, hx] at h; cases h))
    · exact Or.inr ⟨o, e a _ h (fun z => by rw [z, hx] at h; cases h)⟩
  · exact Or.inr h
theorem Keep.kt {x : Addr} {H H' : Hp} {C dx : Addr} {fs : List (Str × V)} (e : Keep x H H') (hx : H x = some (.ins C dx fs)) : Kt H H' :=
  ⟨fun p xs h => e p _ h (fun z => by rw [z, hx] at h; cases h), fun p o u h => e p _ h (fun z => by rw [z, hx] at h; cases h)⟩
mutual
theorem Keep.d {K : PySem.W.Frag} {x : Addr} {H H' : Hp} {C dx : Addr} {fs : List (Str × V)} (e : Keep x H H') (hx : H x = some (.ins C dx fs)) : ∀ {v : V} {d : PyData}, Dp K H v d → Dp K H' v d
  | _, _, .non => .non
  | _, _, .bl b => .bl b
  | _, _, .int i => .int i
  | _, _, .str z => .str z
  | _, _, .lst h hs => .lst (e.l hx h) (e.ds hx hs)
  | _, _, .tup h hs => .tup (e.t hx h) (e.ds hx hs)
theorem Keep.ds {K : PySem.W.Frag} {x : Addr} {H H' : Hp} {C dx : Addr} {fs : List (Str × V)} (e : Keep x H H') (hx : H x = some (.ins C dx fs)) : ∀ {vs : List V} {ds : List PyData}, DpAll K H vs ds → DpAll K H' vs ds
  | _, _, .nil => .nil
  | _, _, .cons h hs => .cons (e.d hx h) (e.ds hx hs)
end
def rF (oa : Addr) (i : Nat) (dc : Addr) : List (Str × V) := [("octets", .ref oa), ("at", .int (i : Int)), ("classes", .ref dc)]
theorem lk_here {k : Str} {v : V} {r : List (Str × V)} : List.lookup k ((k, v) :: r) = some v := by
  have e : (k == k) = true := beq_self_eq_true k
  simp only [List.lookup, e]
theorem lk_past {k g : Str} {v : V} {r : List (Str × V)} (h : (k == g) = false) : List.lookup k ((g, v) :: r) = List.lookup k r := by
  simp only [List.lookup, h]
theorem put_here {f : Str} {v x : V} {r : List (Str × V)} : putF f v ((f, x) :: r) = (f, v) :: r := if_pos rfl
theorem put_past {f g : Str} {v x : V} {r : List (Str × V)} (h : ¬ g = f) : putF f v ((g, x) :: r) = (g, x) :: putF f v r := if_neg h
theorem rF_octets (oa : Addr) (i : Nat) (dc : Addr) : (rF oa i dc).lookup ("octets" : Str) = some (.ref oa) := lk_here
theorem rF_at (oa : Addr) (i : Nat) (dc : Addr) : (rF oa i dc).lookup ("at" : Str) = some (.int (i : Int)) := (lk_past (by decide +kernel)).trans lk_here
theorem rF_classes (oa : Addr) (i : Nat) (dc : Addr) : (rF oa i dc).lookup ("classes" : Str) = some (.ref dc) := (lk_past (by decide +kernel)).trans ((lk_past (by decide +kernel)).trans lk_here)
theorem rF_no {oa : Addr} {i : Nat} {dc : Addr} {m : Str} (h1 : (m == ("octets" : Str)) = false) (h2 : (m == ("at" : Str)) = false) (h3 : (m == ("classes" : Str)) = false) : (rF oa i dc).lookup m = none := (lk_past h1).trans ((lk_past h2).trans ((lk_past h3).trans rfl))
theorem rF_put (oa : Addr) (i j : Nat) (dc : Addr) : putF ("at" : Str) (.int (j : Int)) (rF oa i dc) = rF oa j dc := (put_past (by decide +kernel)).trans (congrArg _ put_here)
section
variable {P : Program} {w : World} {K : PySem.W.Frag} {mg : Str → Option Value} {base : Heap}
/-- x reads from the list at oa, at i, its classes the dict at dc -/
abbrev RAt (T : Txt K mg) (H : Hp) (x dx oa dc : Addr) (i : Nat) : Prop := H x = some (.ins T.C dx (rF oa i dc))
section
variable {H : Hp} {x dx oa dc : Addr} {i : Nat} {Q : VK} {σ : L2.St}
theorem r_at (T : Txt K mg) (h : RAt T H x dx oa dc i) (q : Q (.int i) H) : RFld K "at" (.ref x) H Q := u_fldv h T.cl_Reading T.na_at (rF_at oa i dc) q
theorem r_octets (T : Txt K mg) (h : RAt T H x dx oa dc i) (q : Q (.ref oa) H) : RFld K "octets" (.ref x) H Q := u_fldv h T.cl_Reading T.na_octets (rF_octets oa i dc) q
theorem r_classes (T : Txt K mg) (h : RAt T H x dx oa dc i) (q : Q (.ref dc) H) : RFld K "classes" (.ref x) H Q := u_fldv h T.cl_Reading T.na_classes (rF_classes oa i dc) q
theorem r_set (T : Txt K mg) {j : Nat} {z : Int} {N : Hp → Prop} (h : RAt T H x dx oa dc i) (e : z = (j : Int)) (q : N (upd H x (.ins T.C dx (rF oa j dc)))) : RSet K "at" (.int z) (.ref x) H N := by
  subst e
  refine u_setv h T.cl_Reading T.na_at (by show 3 < 1000; decide) ?_
  rw [rF_put]
  exact q
theorem r_meth (T : Txt K mg) {m : Str} {sp : Sp} {E : XK} {t : TA} (h : RAt T H x dx oa dc i) (q : t σ H fun vs H2 => sp (.ref x :: (vs ++ [])) H2 Q E) (h1 : (m == ("octets" : Str)) = false := by decide +kernel) (h2 : (m == ("at" : Str)) = false := by decide +kernel) (h3 : (m == ("classes" : Str)) = false := by decide +kernel) : RMeth T.C m sp [] E t σ Q (.ref x) H := u_methv h (rF_no h1 h2 h3) q
end
/-- an error that tells the place n: all else but x stands -/
def Fl (T : Txt K mg) (E : XK) (x : Addr) (H : Hp) (n : Nat) : Prop := ∀ d H', Keep x H H' → H' d = some (.xd [(("place" : Str), .int (n : Int))]) → E (.ref T.CF) (some d) H'
theorem Fl.on {T : Txt K mg} {E : XK} {x : Addr} {H H' : Hp} {n : Nat} (f : Fl T E x H n) (k : Keep x H H') : Fl T E x H' n := fun d H2 k2 h => f d H2 (k.trans k2) h
def sp_Fault___init__ (T : Txt K mg) : Sp := fun vs H Q _ => ∃ (a : Addr) (n : Int), vs = [.ref a, .int n] ∧ H a = some (exo a T.CF none) ∧ ∀ dx, H dx = none → dx ≠ a → Q .non (upd (upd H dx (exd dx [(("place" : Str), .int n)])) a (exo a T.CF (some dx)))
theorem ok_Fault___init__ (T : Txt K mg) : FnOk P w K mg base CX0 1 T.aI T.fI ["self", "place"] (sp_Fault___init__ T) := by
  refine T.FI.ok sc_Fault___init__ (fun vs H Q E h => ?_) (fun cdv A outer s H vs Q E hr h => ⟨_, (pss_one (ostK K (pv 0) (pv 1))), ?_⟩)
  · obtain ⟨_, _, rfl, _⟩ := h; rfl
  · obtain ⟨a, n, rfl, ha, k⟩ := h
    refine ⟨_, rfl, _, rfl, a, T.CF, rfl, T.ox, T.xp, Or.inl ⟨ha, fun dx h1 h2 => k dx h1 h2⟩⟩
theorem r_raise (T : Txt K mg) {W : XK} {H : Hp} {n : Nat} {z : Int} {x : Addr} (e : z = (n : Int)) (f : Fl T W x H n) : RMk T.CF (sp_Fault___init__ T) [] W [.int z] H := by
  subst e
  refine ⟨by show 1 ≤ 1000; decide, fun a ha => ⟨a, n, rfl, upd_same, fun dx h1 h2 => ⟨rfl, dx, [(("place" : Str), .int (n : Int))], upd_same, ?_, ?_, ?_⟩⟩⟩
  · rw [upd_ne h2]; exact upd_same
  · rw [upd_ne h2] at h1; exact h1
  · have hdx : H dx = none := by rw [upd_ne h2] at h1; exact h1
    refine f dx _ (fun p o hp _ => ?_) upd_same
    have n1 : p ≠ dx := ne_of_none hp hdx
    have n2 : p ≠ a := ne_of_none hp ha
    rw [upd_ne n1, del_ne n2, upd_ne n2, upd_ne n1, upd_ne n2]
    exact hp
end
end Sr
namespace Sr
open PySem PySem.Spec PyProof.Rows L2
open Fh (Bytes)
theorem bI_none {b : Bytes} {i : Nat} (h : b.length ≤ i) : (bI b)[i]? = none := by rw [List.getElem?_eq_none_iff, bI_len]; exact h
theorem hd_some {b : Bytes} {i : Nat} (h : i < b.length) : ∃ c, b[i]? = some c ∧ Sm.hd b i = c.toNat ∧ b.drop i = c :: b.drop (i + 1) := by
  refine ⟨b[i], List.getElem?_eq_getElem h, ?_, List.drop_eq_getElem_cons h⟩
  exact Sm.hd_cons (List.drop_eq_getElem_cons h)
theorem hd_none {b : Bytes} {i : Nat} (h : b.length ≤ i) : Sm.hd b i = -1 := Sm.hd_nil (List.drop_eq_nil_of_le h)
def encS (s : Nat × Nat) : PyData := .tuple [.int s.1, .int s.2]
theorem dp_pair {K : PySem.W.Frag} {H : Hp} {v : V} {a b : Int} (h : Dp K H v (.tuple [.int a, .int b])) : ∃ p, v = .ref p ∧ SqT K H p [.int a, .int b] := by
  cases h with
  | tup hs hd =>
    refine ⟨_, rfl, ?_⟩
    cases hd with
    | cons h1 h2 =>
      cases h1
      cases h2 with
      | cons h3 h4 =>
        cases h3
        cases h4
        exact hs
theorem dp_mk2 {K : PySem.W.Frag} {H : Hp} {p : Addr} {a b : Int} (h : SqT K H p [.int a, .int b]) : Dp K H (.ref p) (.tuple [.int a, .int b]) := .tup h (.cons (.int a) (.cons (.int b) .nil))
section
variable {P : Program} {w : World} {K : PySem.W.Frag} {mg : Str → Option Value} {base : Heap}
def sp_Reading___init__ (T : Txt K mg) : Sp := fun vs H Q _ => ∃ (x dx oa : Addr), vs = [.ref x, .ref oa] ∧ H x = some (.ins T.C dx []) ∧
  ∀ dc H', Keep x H H' → H dc = none → dc ≠ x → RAt T H' x dx oa dc 0 → H' dc = some (.dK []) → Q .non H'
theorem ok_Reading___init__ (T : Txt K mg) : FnOk P w K mg base CX0 1 T.m_Reading___init__.a T.m_Reading___init__.fd ["self", "octets"] (sp_Reading___init__ T) := by
  refine T.m_Reading___init__.F.ok sc_Reading___init__ (fun vs H Q E h => ?_) (fun cdv A outer s H vs Q E hr h => ⟨_, (pss_cons (sfldK K (pv 0) (pv 1) rfl)
 (pss_cons (sfldK K (pv 0) pe_int rfl)
 (pss_one (sfldK K (pv 0) pe_dnewK rfl)))), ?_⟩)
  · obtain ⟨_, _, _, rfl, _⟩ := h; rfl
  · obtain ⟨x, dx, oa, rfl, hx, k⟩ := h
    walk_at "u"
    refine u_setv hx T.cl_Reading T.na_octets (by show 0 < 1000; decide) ?_
    walk_at "u"
    refine u_setv upd_same T.cl_Reading T.na_at (by show 1 < 1000; decide) ?_
    walk_at "u"
    intro p hp
    rw [upd_upd] at hp
    have hpx : p ≠ x := fun z => by rw [z, upd_same] at hp; cases hp
    have hp0 : H p = none := by rw [upd_ne hpx] at hp; exact hp
    walk_at "u"
    refine u_setv (dx := dx) (by rw [upd_ne hpx.symm]; exact upd_same) T.cl_Reading T.na_classes (by show 2 < 1000; decide) ?_
    refine k p _ ?_ hp0 hpx ?_ ?_
    · intro q o hq hn
      rw [upd_ne hn, upd_ne (ne_of_none hq hp0), upd_ne hn, upd_ne hn]
      exact hq
    · have e : putF "classes" (.ref p) (putF "at" (.int 0) (putF "octets" (.ref oa) [])) = rF oa 0 p := by
        show putF "classes" (.ref p) (putF "at" (.int 0) [("octets", .ref oa)]) = _
        rw [put_past (by decide +kernel)]
        show putF "classes" (.ref p) [("octets", .ref oa), ("at", .int 0)] = _
        rw [put_past (by decide +kernel), put_past (by decide +kernel)]
        rfl
      rw [e]
      exact upd_same
    · rw [upd_ne hpx]; exact upd_same
def sp_Reading_here (T : Txt K mg) : Sp := fun vs H Q _ => ∃ (x dx oa dc : Addr) (b : Bytes) (i : Nat), vs = [.ref x] ∧ RAt T H x dx oa dc i ∧ LI K H oa (bI b) ∧ ∀ r, r = Sm.hd b i → Q (.int r) H
theorem ok_Reading_here (T : Txt K mg) : FnOk P w K mg base CX0 1 T.m_Reading_here.a T.m_Reading_here.fd ["self"] (sp_Reading_here T) := by
  refine T.m_Reading_here.F.ok sc_Reading_here (fun vs H Q E h => ?_) (fun cdv A outer s H vs Q E hr h => ⟨_, (pss_one (ps_ret (pe_ifExp (pt_cmpR op_lt (fldK K (pv 0) rfl) (pe_callB (cr_len K) rfl T.b_len PySem.boot_len (pa_cons (fldK K (pv 0) rfl) pa_nil)) (nomark _)) (pe_ix (ixLK K) (fldK K (pv 0) rfl) (fldK K (pv 0) rfl) (fun _ _ => rfl)) (pe_un un_neg pe_int)))), ?_⟩)
  · obtain ⟨_, _, _, _, _, _, rfl, _⟩ := h; rfl
  · obtain ⟨x, dx, oa, dc, b, i, rfl, hx, hL, k⟩ := h
    walk_at "u"
    refine r_at T hx ?_
    walk_at "u"
    refine r_octets T hx ?_
    walk_at "u"
    refine u_lenL hL ?_
    walk_at "u"
    rw [map_int_len, bI_len]
    refine ite_d (fun h1 => ?_) (fun h1 => ?_)
    · obtain ⟨c, hc, hh, _⟩ := hd_some (b := b) (i := i) (by omega)
      walk_at "u"
      refine r_octets T hx ?_
      walk_at "u"
      refine r_at T hx ?_
      refine u_ixL hL (at_int rfl (bI_at hc)) ?_
      exact k _ hh.symm
    · walk_at "u"
      exact k _ (hd_none (by omega)).symm
def sp_Reading_take (T : Txt K mg) : Sp := fun vs H Q E => ∃ (x dx oa dc : Addr) (b : Bytes) (i : Nat) (c : Int), vs = [.ref x, .int c] ∧ RAt T H x dx oa dc i ∧ LI K H oa (bI b) ∧
  (Sm.hd b i = c → ∀ H', Keep x H H' → RAt T H' x dx oa dc (i + 1) → Q .non H') ∧ (Sm.hd b i ≠ c → Fl T E x H i)
theorem ok_Reading_take (T : Txt K mg) : FnOk P w K mg base (L2.CX P w) 3 T.m_Reading_take.a T.m_Reading_take.fd ["self", "octet"] (sp_Reading_take T) := by
  refine T.m_Reading_take.F.okX sc_Reading_take (fun vs H Q E h => ?_) (fun cdv A outer s H vs Q E hr h => ⟨_, (pss_cons (ps_if (pt_cmpR op_ne (pe_meth0 (pv 0) T.cl_Reading T.m_Reading_here.m (ok_Reading_here T) (hr.mono (by decide)) T.m_Reading_here.b .nil pass0) (pv 1) (nomark _)) (pss_one (ps_rz rfl (takes_of rfl rfl rfl rfl) (pmk_oex T.ox T.ix T.tx (ok_Fault___init__ T) (hr.mono (by decide)) T.bI .nil pass0 rfl T.g_Fault (pa_cons (fldK K (pv 0) rfl) pa_nil)))) pss_nil)
 (pss_one (sfldK K (pv 0) (pe_op op_add (fldK K (pv 0) rfl) pe_int) rfl))), ?_⟩)
  · obtain ⟨_, _, _, _, _, _, _, rfl, _⟩ := h; rfl
  · obtain ⟨x, dx, oa, dc, b, i, c, rfl, hx, hL, k1, k2⟩ := h
    walk_at "u"
    refine r_meth T hx ?_
    walk_at "u"
    refine ⟨x, dx, oa, dc, b, i, rfl, hx, hL, fun r hr => ?_⟩
    walk_at "u"
    subst hr
    refine ite_d (fun h1 => ?_) (fun h1 => ?_)
    · walk_at "u"
      refine r_at T hx ?_
      walk_at "u"
      exact r_raise T rfl (k2 h1)
    · walk_at "u"
      refine r_at T hx ?_
      walk_at "u"
      refine r_set T (j := i + 1) hx (by omega) ?_
      exact k1 (by omega) _ Keep.upd upd_same
def sp_can_begin (K : PySem.W.Frag) : Sp := fun vs H Q _ => ∃ (n lo hi : Nat), vs = [.int n, .int lo, .int hi] ∧ hi < 100000000 ∧ ∀ r, r = Sm.canBeginM n lo hi → Q (.bl r) H
theorem ok_can_begin (T : Txt K mg) : FnOk P w K mg base CX0 1 T.f_can_begin.a T.f_can_begin.fd ["number", "low", "high"] (sp_can_begin K) := by
  refine T.f_can_begin.F.ok sc_can_begin (fun vs H Q E h => ?_) (fun cdv A outer s H vs Q E hr h => ⟨_, (pss_cons (ps_if (pt_cmpR op_eq (pv 0) pe_int (nomark _)) (pss_one (ps_ret (pe_cmpR op_eq (pv 1) pe_int (nomark _)))) pss_nil)
 (pss_cons (ps_par (i := 3) (j := 4) (by rfl) sc_can_begin.nd rfl rfl (by decide) rfl rfl (pa_cons (pv 0) (pa_cons (pv 0) pa_nil)) (by rfl))
 (pss_cons (ps_while PassesOwn.never (pt_cmpR op_le (pv 3) (pv 2) (nomark _)) (pss_cons (ps_if (pt_cmpR op_ge (pv 4) (pv 1) (nomark _)) (pss_one (ps_ret pe_bl)) pss_nil)
 (pss_one (ps_par (i := 3) (j := 4) (by rfl) sc_can_begin.nd rfl rfl (by decide) rfl rfl (pa_cons (pe_op op_mul (pv 3) pe_int) (pa_cons (pe_op op_add (pe_op op_mul (pv 4) pe_int) pe_int) pa_nil)) (by rfl)))))
 (pss_one (ps_ret pe_bl))))), ?_⟩)
  · obtain ⟨_, _, _, rfl, _⟩ := h; rfl
  · obtain ⟨n, lo, hi, rfl, hh, k⟩ := h
    walk_at "u"
    unfold Sm.canBeginM at k
    refine ite_d (fun h1 => ?_) (fun h1 => ?_)
    · walk_at "u"
      refine k _ ?_
      rw [if_pos (by omega)]
      congr 1
      simp only [eq_iff_iff]
      omega
    · rw [if_neg (by omega)] at k
      generalize hX : Sm.cbL lo hi 9 n n = X at k
      walk_at "u"
      refine f_while (fun m σ H' => ∃ a z : Nat, σ = [some (.int n), some (.int lo), some (.int hi), some (.int a), some (.int z)] ∧ H' = H ∧ m ≤ 9 ∧ 10 ^ (9 - m) ≤ a ∧ X = Sm.cbL lo hi m a z) (m := 9)
        ⟨n, n, rfl, rfl, Nat.le_refl _, by omega, hX.symm⟩ ?_
      rintro m σ H' ⟨a, z, rfl, rfl, hm, ha, hcb⟩
      walk_at "u"
      refine ite_d (fun h2 => ?_) (fun h2 => ?_)
      · refine u_body ?_
        have hm0 : m ≠ 0 := fun q => by subst q; have : 10 ^ 9 ≤ a := ha; omega
        obtain ⟨m, rfl⟩ : ∃ j, m = j + 1 := ⟨m - 1, by omega⟩
        rw [Sm.cbL, if_pos (by omega)] at hcb
        walk_at "u"
        refine ite_d (fun h3 => ?_) (fun h3 => ?_)
        · walk_at "u"
          refine k _ ?_
          rw [hcb, if_pos (by omega)]
        · rw [if_neg (by omega)] at hcb
          walk_at "u"
          refine u_I (Or.inr ⟨by decide, by decide⟩) ?_
          walk_at "u"
          refine u_I (Or.inr ⟨by decide, by decide⟩) ?_
          walk_at "u"
          refine ⟨m, by omega, a * 10, z * 10 + 9, rfl, rfl, by omega, ?_, hcb⟩
          have e : 9 - m = (9 - (m + 1)) + 1 := by omega
          rw [e, Nat.pow_succ]
          omega
      · walk_at "u"
        refine k _ ?_
        rw [hcb]
        cases m with
        | zero => rfl
        | succ m => rw [Sm.cbL, if_neg (by omega)]
def sp_is_begun (K : PySem.W.Frag) : Sp := fun vs H Q _ => ∃ (n : Nat) (a : Addr) (us : List V) (sp : List (Nat × Nat)), vs = [.int n, .ref a] ∧ SqL K H a us ∧ DpAll K H us (sp.map encS) ∧ (∀ s ∈ sp, s.2 < 100000000) ∧ ∀ r, r = Sm.isBegunM n sp → Q (.bl r) H
theorem ok_is_begun (T : Txt K mg) : FnOk P w K mg base CX0 2 T.f_is_begun.a T.f_is_begun.fd ["number", "spans"] (sp_is_begun K) := by
  refine T.f_is_begun.F.ok sc_is_begun (fun vs H Q E h => ?_) (fun cdv A outer s H vs Q E hr h => ⟨_, (pss_cons (ps_for PassesOwn.never rfl (piLK K (pv 1)) (gtK K (n := 2) rfl (pgs_cons (pg_name (i := 2) sc_is_begun.nd rfl (Or.inl rfl)) (pgs_cons (pg_name (i := 3) sc_is_begun.nd rfl (Or.inl rfl)) pgs_nil))) (pss_one (ps_if (PW.pt (pw_and (pt_cmpR op_le (pv 2) (pv 3) (nomark _)) (pw_and1 (pt_val (pe_call (ok_can_begin T) (hr.mono (by decide)) rfl T.f_can_begin.g T.f_can_begin.F.kp T.f_can_begin.b .nil pass0 (pa_cons (pv 0) (pa_cons (pv 2) (pa_cons (pv 3) pa_nil)))))))) (pss_one (ps_ret pe_bl)) pss_nil)))
 (pss_one (ps_ret pe_bl))), ?_⟩)
  · obtain ⟨_, _, _, _, rfl, _⟩ := h; rfl
  · obtain ⟨n, a, us, sp, rfl, hL, hD, hs, k⟩ := h
    have hlen : us.length = sp.length := by rw [dps_len hD, List.length_map]
    walk_at "u"
    refine f_list (K := K) (a := a) (xs := us) (fun i σ H' => ∃ v1 v2, σ = [some (.int n), some (.ref a), v1, v2] ∧ H' = H ∧ Sm.isBegunM n sp = Sm.isBegunM n (sp.drop i)) hL ⟨none, none, rfl, rfl, rfl⟩ (fun i σ H' _ ⟨_, _, _, e, _⟩ => by rw [e]; exact hL) ?_ ?_
    · rintro i x σ H' hx ⟨v1, v2, rfl, rfl, hb⟩
      have hi : i < sp.length := by rw [← hlen]; exact (List.getElem?_eq_some_iff.mp hx).1
      obtain ⟨v, hv, hd⟩ := dps_get hD (i := i) (d := encS sp[i]) (by rw [List.getElem?_map, List.getElem?_eq_getElem hi]; rfl)
      rw [hx] at hv
      cases hv
      obtain ⟨p, rfl, hp⟩ := dp_pair hd
      have hsp := hs sp[i] (List.getElem_mem hi)
      rw [List.drop_eq_getElem_cons hi] at hb
      generalize sp[i] = s at hp hb hsp
      have hb2 : Sm.isBegunM n sp = ((decide (s.1 ≤ s.2) && Sm.canBeginM n s.1 s.2) || Sm.isBegunM n (sp.drop (i + 1))) := hb
      refine u_gt hp rfl ?_
      walk_at "u"
      refine ite_d (fun h1 => ?_) (fun h1 => ?_)
      · walk_at "u"
        refine ⟨n, s.1, s.2, rfl, hsp, fun r hr => ?_⟩
        walk_at "u"
        refine ite_b (fun h2 => ?_) (fun h2 => ?_)
        · walk_at "u"
          refine k _ ?_
          rw [hb2, decide_eq_true (by omega), ← hr, h2]
          rfl
        · walk_at "u"
          refine ⟨_, _, rfl, rfl, ?_⟩
          rw [hb2, ← hr, h2, Bool.and_false, Bool.false_or]
      · walk_at "u"
        refine ⟨_, _, rfl, rfl, ?_⟩
        rw [hb2, decide_eq_false (by omega), Bool.false_and, Bool.false_or]
    · rintro σ H' ⟨v1, v2, rfl, rfl, hb⟩
      walk_at "u"
      refine k _ ?_
      rw [hb, hlen, List.drop_length]
      rfl
end
end Sr
namespace Sr
open PySem PySem.Spec PyProof.Rows L2
open Fh (Bytes)
def foundI : Option Nat → Int
  | none => -1
  | some v => v
theorem found_max (f : Option Nat) : (if (0 : Int) > foundI f then 0 else foundI f) = ((f.getD 0 : Nat) : Int) := by
  cases f with
  | none => rfl
  | some v =>
    show (if (0 : Int) > (v : Int) then 0 else (v : Int)) = (v : Int)
    rw [if_neg (by omega)]
theorem found_ne (f : Option Nat) : foundI f ≠ 0 ↔ f ≠ some 0 := by
  cases f with
  | none => exact ⟨fun _ => (fun h => nomatch h), fun _ => (show (-1 : Int) ≠ 0 by decide)⟩
  | some v =>
    show (v : Int) ≠ 0 ↔ some v ≠ some 0
    simp only [ne_eq, Option.some.injEq]
    omega
section
variable {P : Program} {w : World} {K : PySem.W.Frag} {mg : Str → Option Value} {base : Heap}
def sp_Reading_number (T : Txt K mg) : Sp := fun vs H Q E => ∃ (x dx oa dc : Addr) (b : Bytes) (i : Nat) (sa : Addr) (us : List V) (sp : List (Nat × Nat)), vs = [.ref x, .ref sa] ∧ RAt T H x dx oa dc i ∧ LI K H oa (bI b) ∧
  SqL K H sa us ∧ DpAll K H us (sp.map encS) ∧ (∀ s ∈ sp, s.2 < 100000000) ∧ (∀ k, Sm.numM sp (b.drop i) = .error k → Fl T E x H (i + k)) ∧
  ∀ v k, Sm.numM sp (b.drop i) = .ok (v, k) → ∀ H', Keep x H H' → RAt T H' x dx oa dc (i + k) → Q (.int (v : Nat)) H'
theorem ok_Reading_number (T : Txt K mg) : FnOk P w K mg base (L2.CX P w) 3 T.m_Reading_number.a T.m_Reading_number.fd ["self", "spans"] (sp_Reading_number T) := by
  refine T.m_Reading_number.F.okX sc_Reading_number (fun vs H Q E h => ?_) (fun cdv A outer s H vs Q E hr h => ⟨_, (pss_cons (ps_set (i := 2) sc_Reading_number.nd rfl (Or.inl rfl) (pe_un un_neg pe_int))
 (pss_cons (ps_while (passes_of rfl) (PW.pt (pw_and (pt_chain op_le op_le pe_int (pe_meth0 (pv 0) T.cl_Reading T.m_Reading_here.m (ok_Reading_here T) (hr.mono (by decide)) T.m_Reading_here.b .nil pass0) pe_int) (pw_and1 (pt_cmpR op_ne (pv 2) pe_int (nomark _))))) (pss_cons (ps_set (i := 3) sc_Reading_number.nd rfl (Or.inl rfl) (pe_op op_sub (pe_op op_add (pe_op op_mul (pe_callB (cr_max2 rfl) rfl T.b_max (by decide +kernel) (pa_cons (pv 2) (pa_cons pe_int pa_nil))) pe_int) (pe_meth0 (pv 0) T.cl_Reading T.m_Reading_here.m (ok_Reading_here T) (hr.mono (by decide)) T.m_Reading_here.b .nil pass0)) pe_int))
 (pss_cons (ps_if (pt_not (pt_val (pe_call (ok_is_begun T) (hr.mono (by decide)) rfl T.f_is_begun.g T.f_is_begun.F.kp T.f_is_begun.b .nil pass0 (pa_cons (pv 3) (pa_cons (pv 1) pa_nil))))) (pss_one (ps_rz rfl (takes_of rfl rfl rfl rfl) (pmk_oex T.ox T.ix T.tx (ok_Fault___init__ T) (hr.mono (by decide)) T.bI .nil pass0 rfl T.g_Fault (pa_cons (fldK K (pv 0) rfl) pa_nil)))) pss_nil)
 (pss_cons (ps_set (i := 2) sc_Reading_number.nd rfl (Or.inl rfl) (pv 3))
 (pss_one (sfldK K (pv 0) (pe_op op_add (fldK K (pv 0) rfl) pe_int) rfl))))))
 (pss_cons (ps_for (passes_of rfl) rfl (piLK K (pv 1)) (gtK K (n := 2) rfl (pgs_cons (pg_name (i := 4) sc_Reading_number.nd rfl (Or.inl rfl)) (pgs_cons (pg_name (i := 5) sc_Reading_number.nd rfl (Or.inl rfl)) pgs_nil))) (pss_one (ps_if (pt_chain op_le op_le (pv 4) (pv 2) (pv 5)) (pss_one (ps_ret (pv 2))) pss_nil)))
 (pss_one (ps_rz rfl (takes_of rfl rfl rfl rfl) (pmk_oex T.ox T.ix T.tx (ok_Fault___init__ T) (hr.mono (by decide)) T.bI .nil pass0 rfl T.g_Fault (pa_cons (fldK K (pv 0) rfl) pa_nil))))))), ?_⟩)
  · obtain ⟨_, _, _, _, _, _, _, _, _, rfl, _⟩ := h; rfl
  · obtain ⟨x, dx, oa, dc, b, i, sa, us, sp, rfl, hx, hL, hS, hD, hs, kE, kO⟩ := h
    have hlen : us.length = sp.length := by rw [dps_len hD, List.length_map]
    unfold Sm.numM at kE kO
    generalize hr0 : Sm.numL sp none 0 (b.drop i) = R at kE kO
    walk_at "u"
    refine f_while (fun m σ H' => ∃ (f : Option Nat) (k : Nat) (v3 : Option V), σ = [some (.ref x), some (.ref sa), some (.int (foundI f)), v3, none, none] ∧ Keep x H H' ∧ RAt T H' x dx oa dc (i + k) ∧ m = b.length - (i + k) ∧ R = Sm.numL sp f k (b.drop (i + k)))
      ⟨none, 0, none, rfl, Keep.refl _, hx, rfl, hr0.symm⟩ ?_
    rintro m σ H' ⟨f, k, v3, rfl, hK, hx2, rfl, hR⟩
    have hL2 := hK.l hx hL
    have hS2 := hK.l hx hS
    have hD2 := hK.ds hx hD
    -- behind the loop
    have fin : R = .ok (f, k) → (tSeq (tFor (iList K (tVar 1)) (gTup K 2 (gCons (gName 4) (gCons (gName 5) gNil)))
          (tIfS (tTest (tChain (rI0 fun i j => V.bl (decide (i ≤ j))) (rI0 fun i j => V.bl (decide (i ≤ j))) (tVar 4) (tVar 2) (tVar 5))) (tRet (tVar 2)) tNext))
        (tRz (fun cls d _ H => E cls d H) (tMkO T.CF (sp_Fault___init__ T) [] (tCons (tFld K (tVar 0) "at") tNil))) ⟨fun _ H' => Q .non H', Q, fun _ _ => False, fun _ _ => False⟩
        [some (.ref x), some (.ref sa), some (.int (foundI f)), v3, none, none] H') := by
      intro hf
      rw [hf] at kE kO
      walk_at "u"
      refine f_list (K := K) (a := sa) (xs := us) (fun j σ H2 => ∃ v4 v5, σ = [some (.ref x), some (.ref sa), some (.int (foundI f)), v3, v4, v5] ∧ H2 = H' ∧ ∀ v, f = some v → Sm.inSp sp v = Sm.inSp (sp.drop j) v) hS2 ⟨none, none, rfl, rfl, fun _ _ => rfl⟩ (fun j σ H2 _ ⟨_, _, _, e, _⟩ => by rw [e]; exact hS2) ?_ ?_
      · rintro j y σ H2 hy ⟨v4, v5, rfl, rfl, hin⟩
        have hj : j < sp.length := by rw [← hlen]; exact (List.getElem?_eq_some_iff.mp hy).1
        obtain ⟨v, hv, hd⟩ := dps_get hD2 (i := j) (d := encS sp[j]) (by rw [List.getElem?_map, List.getElem?_eq_getElem hj]; rfl)
        rw [hy] at hv
        cases hv
        obtain ⟨p, rfl, hp⟩ := dp_pair hd
        rw [List.drop_eq_getElem_cons hj] at hin
        generalize sp[j] = s at hp hin
        have hin2 : ∀ v, f = some v → Sm.inSp sp v = ((decide (s.1 ≤ v) && decide (v ≤ s.2)) || Sm.inSp (sp.drop (j + 1)) v) := hin
        refine u_gt hp rfl ?_
        walk_at "u"
        refine ite_d (fun h1 => ?_) (fun h1 => ?_)
        · walk_at "u"
          cases f with
          | none => exfalso; have : (s.1 : Int) ≤ -1 := h1; omega
          | some v =>
            have h1' : (s.1 : Int) ≤ v := h1
            refine ite_d (fun h2 => ?_) (fun h2 => ?_)
            · have h2' : (v : Int) ≤ s.2 := h2
              walk_at "u"
              refine kO v k ?_ _ hK hx2
              show (if Sm.inSp sp v = true then Except.ok (v, k) else _) = _
              rw [hin2 v rfl, decide_eq_true (by omega), decide_eq_true (by omega)]
              rfl
            · have h2' : ¬ (v : Int) ≤ s.2 := h2
              walk_at "u"
              refine ⟨_, _, rfl, rfl, fun u hu => ?_⟩
              cases hu
              rw [hin2 v rfl, decide_eq_false (p := v ≤ s.2) (by omega), Bool.and_false, Bool.false_or]
        · walk_at "u"
          refine ⟨_, _, rfl, rfl, fun u hu => ?_⟩
          subst hu
          have h1' : ¬ (s.1 : Int) ≤ u := h1
          rw [hin2 u rfl, decide_eq_false (p := s.1 ≤ u) (by omega), Bool.false_and, Bool.false_or]
      · rintro σ H2 ⟨v4, v5, rfl, rfl, hin⟩
        walk_at "u"
        refine r_at T hx2 ?_
        walk_at "u"
        refine r_raise T rfl (Fl.on (kE k ?_) hK)
        cases f with
        | none => rfl
        | some v =>
          show (if Sm.inSp sp v = true then Except.ok (v, k) else _) = _
          rw [hin v rfl, hlen, List.drop_length]
          rfl
    walk_at "u"
    refine r_meth T hx2 ?_
    walk_at "u"
    refine ⟨x, dx, oa, dc, b, i + k, rfl, hx2, hL2, fun r hr => ?_⟩
    walk_at "u"
    have stop : ¬ (48 ≤ r ∧ r ≤ 57 ∧ f ≠ some 0) → R = .ok (f, k) := by
      intro hn
      rw [hR]
      cases e : b.drop (i + k) with
      | nil => rfl
      | cons c t =>
        have : r = c.toNat := hr.trans (Sm.hd_cons e)
        rw [Sm.numL, if_neg (fun z => hn ⟨by omega, by omega, z.2.2⟩)]
    refine ite_d (fun h1 => ?_) (fun h1 => ?_)
    · walk_at "u"
      refine ite_d (fun h2 => ?_) (fun h2 => ?_)
      · walk_at "u"
        refine ite_d (fun h3 => ?_) (fun h3 => ?_)
        · refine u_body ?_
          have h3' := (found_ne f).mp h3
          have hlt := Sm.hd_lt (b := b) (n := i + k) (by omega)
          obtain ⟨c, hc, hh, hdr⟩ := hd_some (b := b) (i := i + k) hlt
          have hrc : r = c.toNat := hr.trans hh
          rw [hdr, Sm.numL, if_pos ⟨by omega, by omega, h3'⟩] at hR
          walk_at "u"
          refine u_max ?_
          rw [found_max]
          walk_at "u"
          refine u_I (Or.inr ⟨by decide, by decide⟩) ?_
          walk_at "u"
          refine r_meth T hx2 ?_
          walk_at "u"
          refine ⟨x, dx, oa, dc, b, i + k, rfl, hx2, hL2, fun r2 hr2 => ?_⟩
          walk_at "u"
          have em : ((f.getD 0 : Nat) : Int) * 10 + r2 - 48 = ((f.getD 0 * 10 + (c.toNat - 48) : Nat) : Int) := by omega
          rw [em]
          refine ⟨f.getD 0 * 10 + (c.toNat - 48), sa, us, sp, rfl, hS2, hD2, hs, fun q hq => ?_⟩
          walk_at "u"
          refine ite_nb (fun h4 => ?_) (fun h4 => ?_)
          · walk_at "u"
            refine r_at T hx2 ?_
            walk_at "u"
            refine r_raise T rfl (Fl.on (kE k ?_) hK)
            rw [hR, ← hq, h4]
            rfl
          · walk_at "u"
            refine r_at T hx2 ?_
            walk_at "u"
            refine r_set T (j := i + (k + 1)) hx2 (by omega) ?_
            rw [← hq, h4, if_pos rfl] at hR
            refine ⟨b.length - (i + (k + 1)), by omega, some (f.getD 0 * 10 + (c.toNat - 48)), k + 1, _, rfl, hK.trans Keep.upd, upd_same, rfl, ?_⟩
            exact hR
        · repeat (first | ((with_reducible refine id_seq ?_); exact fin (stop fun z => h3 ((found_ne f).mpr z.2.2))) | walk_at "u1")
      · repeat (first | ((with_reducible refine id_seq ?_); exact fin (stop fun z => h2 z.2.1)) | walk_at "u1")
    · repeat (first | ((with_reducible refine id_seq ?_); exact fin (stop fun z => h1 z.1)) | walk_at "u1")
end
end Sr
namespace Sr
open PySem PySem.Spec PyProof.Rows L2
open Fh (Bytes)
def encR (l : List (Nat × Nat)) : PyData := .tuple (l.map encS)
theorem canLay_pairs : ∀ l : List (Nat × Nat), PyData.canLayAll0 (l.map encS) = true
  | [] => rfl
  | s :: l => by
    rw [List.map_cons, PyData.canLayAll0, canLay_pairs l]
    rfl
theorem depth_pairs : ∀ l : List (Nat × Nat), PyData.depthAll (l.map encS) ≤ 1
  | [] => Nat.zero_le _
  | s :: l => by
    rw [List.map_cons, PyData.depthAll]
    exact Nat.max_le.mpr ⟨Nat.le_refl 1, depth_pairs l⟩
theorem shaped_pairs (l : List (Nat × Nat)) : SeqAt.shaped (.list (l.map encS)) = true := by
  have h := depth_pairs l
  unfold SeqAt.shaped
  rw [PyData.canLay0, canLay_pairs, PyData.depth, Bool.true_and, decide_eq_true_eq]
  omega
theorem eqv_nil : ∀ ds : List PyData, PyData.eqvAll ds [] = ds.isEmpty
  | [] => rfl
  | _ :: _ => by simp [PyData.eqvAll]
theorem u_eqNil {K : PySem.W.Frag} {H : Hp} {Q : VK} {a e : Addr} {us : List V} {ds : List PyData} (ha : SqL K H a us) (hd : DpAll K H us ds) (hs : SeqAt.shaped (.list ds) = true) (he : SqL K H e []) (h : Q (.bl ds.isEmpty) H) : rEqD K (.ref a) (.ref e) H Q := by
  refine ⟨_, _, .lst ha hd, .lst he .nil, hs, shaped_ints [], ?_⟩
  rw [PyData.eqv, eqv_nil]
  exact h
theorem reg_isEmpty {l : List (Nat × Nat)} : (l.reverse.map encS).isEmpty = decide (l = []) := by
  cases l with
  | nil => rfl
  | cons a l => simp
/-- one span, made as it stands: [(lo, hi)] -/
theorem one_span {K : PySem.W.Frag} {H : Hp} {p q : Addr} {lo hi : Nat} (hp : H p = none) (hq : upd H p (.tup [.int lo, .int hi]) q = none) :
    SqL K (upd (upd H p (.tup [.int lo, .int hi])) q (.lst [.ref p])) q [.ref p] ∧ DpAll K (upd (upd H p (.tup [.int lo, .int hi])) q (.lst [.ref p])) [.ref p] ([(lo, hi)].map encS) := by
  refine ⟨Or.inl (Or.inl upd_same), .cons (dp_mk2 (Or.inl (Or.inl ?_))) .nil⟩
  have : p ≠ q := fun z => by rw [← z, upd_same] at hq; cases hq
  rw [upd_ne this]
  exact upd_same
section
variable {P : Program} {w : World} {K : PySem.W.Frag} {mg : Str → Option Value} {base : Heap}
def sp_Reading_ranges (T : Txt K mg) : Sp := fun vs H Q E => ∃ (x dx oa dc : Addr) (b : Bytes) (i : Nat), vs = [.ref x] ∧ RAt T H x dx oa dc i ∧ LI K H oa (bI b) ∧ b.length ≤ 900000 ∧
  (∀ k, Sm.rangesL b (b.length + 1) i [] = .error k → Fl T E x H k) ∧
  ∀ rs n, Sm.rangesL b (b.length + 1) i [] = .ok (rs, n) → ∀ v H', Keep x H H' → RAt T H' x dx oa dc n → Dp K H' v (encR rs) → Q v H'
theorem tupD_S (s : Nat × Nat) : tupD (encS s) = true := rfl
theorem tupD_R (l : List (Nat × Nat)) : tupD (encR l) = true := by unfold encR; rw [tupD]; exact tupDs_map tupD_S l
theorem ok_Reading_ranges (T : Txt K mg) : FnOk P w K mg base (L2.CX P w) 4 T.m_Reading_ranges.a T.m_Reading_ranges.fd ["self"] (sp_Reading_ranges T) := by
  refine T.m_Reading_ranges.F.okX sc_Reading_ranges (fun vs H Q E h => ?_) (fun cdv A outer s H vs Q E hr h => ⟨_, (pss_cons (ps_par (i := 1) (j := 2) (by rfl) sc_Reading_ranges.nd rfl rfl (by decide) rfl rfl (pa_cons (pe_lst pa_nil) (pa_cons pe_int pa_nil)) (by rfl))
 (pss_cons (ps_while (passes_of rfl) (PW.pt (pw_or (pt_cmpR (eqDK K hr.units) (pv 1) (pe_lst pa_nil) (nomark _)) (pw_or1 (PW.pt (pw_and (pt_cmpR op_eq (pe_meth0 (pv 0) T.cl_Reading T.m_Reading_here.m (ok_Reading_here T) (hr.mono (by decide)) T.m_Reading_here.b .nil pass0) (pe_gi T.c_BLANK) (nomark _)) (pw_and1 (pt_cmpR op_le (pv 2) (pe_gi T.c_GREATEST) (nomark _)))))))) (pss_cons (ps_expr (pe_meth (pv 0) T.cl_Reading T.m_Reading_take.m (ok_Reading_take T) (hr.mono (by decide)) T.m_Reading_take.b .nil (passes_call (takes_of rfl rfl rfl rfl) (fun _ _ _ _ h => h)) (pa_cons (pe_gi T.c_BLANK) pa_nil)))
 (pss_cons (ps_set (i := 3) sc_Reading_ranges.nd rfl (Or.inl rfl) (pe_meth (pv 0) T.cl_Reading T.m_Reading_number.m (ok_Reading_number T) (hr.mono (by decide)) T.m_Reading_number.b .nil (passes_call (takes_of rfl rfl rfl rfl) (fun _ _ _ _ h => h)) (pa_cons (pe_lst (pa_cons (pe_tup (pa_cons (pv 2) (pa_cons (pe_gi T.c_GREATEST) pa_nil))) pa_nil)) pa_nil)))
 (pss_cons (ps_expr (pe_meth (pv 0) T.cl_Reading T.m_Reading_take.m (ok_Reading_take T) (hr.mono (by decide)) T.m_Reading_take.b .nil (passes_call (takes_of rfl rfl rfl rfl) (fun _ _ _ _ h => h)) (pa_cons (pe_gi T.c_MINUS) pa_nil)))
 (pss_cons (ps_set (i := 4) sc_Reading_ranges.nd rfl (Or.inl rfl) (pe_meth (pv 0) T.cl_Reading T.m_Reading_number.m (ok_Reading_number T) (hr.mono (by decide)) T.m_Reading_number.b .nil (passes_call (takes_of rfl rfl rfl rfl) (fun _ _ _ _ h => h)) (pa_cons (pe_lst (pa_cons (pe_tup (pa_cons (pv 3) (pa_cons (pe_gi T.c_GREATEST) pa_nil))) pa_nil)) pa_nil)))
 (pss_cons (ps_expr (bmK K PySem.F.plainAttrs_list PySem.F.slot_list_append PySem.F.type_list_append mt_append (pv 1) (pa_cons (pe_tup (pa_cons (pv 3) (pa_cons (pv 4) pa_nil))) pa_nil)))
 (pss_one (ps_set (i := 2) sc_Reading_ranges.nd rfl (Or.inl rfl) (pe_op op_add (pv 4) pe_int)))))))))
 (pss_one (ps_ret (pe_callTy (cr_tuple K) rfl T.b_tuple (by decide +kernel) (pa_cons (pv 1) pa_nil)))))), ?_⟩)
  · obtain ⟨_, _, _, _, _, _, rfl, _⟩ := h; rfl
  · obtain ⟨x, dx, oa, dc, b, i, rfl, hx, hL, hbl, kE, kO⟩ := h
    walk_at "u"
    refine ⟨by show 0 ≤ sizeLine; decide, fun fl hfl => ?_⟩
    have hflx : fl ≠ x := fun z => by rw [z, hx] at hfl; cases hfl
    generalize hR0 : Sm.rangesL b (b.length + 1) i [] = R at kE kO
    walk_at "u"
    refine f_while (fun m σ H' => ∃ (n : Nat) (l : List (Nat × Nat)) (us : List V) (v3 v4 : Option V), σ = [some (.ref x), some (.ref fl), some (.int (Sm.leastR l : Nat)), v3, v4] ∧ Keep x H H' ∧ RAt T H' x dx oa dc n ∧ H' fl = some (.lst us) ∧ DpAll K H' us (l.reverse.map encS) ∧
        R = Sm.rangesL b m n l ∧ b.length - n < m ∧ l.length ≤ n ∧ (l ≠ [] → l.length ≤ b.length)) (m := b.length + 1)
      ⟨i, [], [], none, none, rfl, Keep.new hfl, (upd_ne hflx.symm).trans hx, upd_same, .nil, hR0.symm, by omega, Nat.zero_le _, fun z => absurd rfl z⟩ ?_
    rintro m σ H' ⟨n, l, us, v3, v4, rfl, hK, hx2, hf2, hD, hR, hm, hln, hlb⟩
    obtain ⟨m, rfl⟩ : ∃ j, m = j + 1 := ⟨m - 1, by omega⟩
    rw [Sm.rangesL] at hR
    have hulen : us.length = l.length := by rw [dps_len hD, List.length_map, List.length_reverse]
    refine tt_cut (decide (l = [] ∨ (Sm.hd b n = 32 ∧ Sm.leastR l ≤ 1114111))) (fun QT q => ?_) (fun H3 s3 => ?_)
    · walk_at "u"
      refine ⟨by show 0 ≤ sizeLine; decide, fun e he => ?_⟩
      have s1 := same_new (o := .lst []) he
      refine u_eqNil (same_l s1 (Or.inl (Or.inl hf2))) (dps_same s1 hD) (by rw [List.map_reverse, ← List.map_reverse]; exact shaped_pairs _) (Or.inl (Or.inl upd_same)) ?_
      rw [reg_isEmpty]
      walk_at "u"
      refine ite_d (fun h1 => ?_) (fun h1 => ?_)
      · exact q _ _ s1 (decide_eq_true (Or.inl h1)).symm
      · walk_at "u"
        refine r_meth T (s1 _ _ hx2) ?_
        walk_at "u"
        refine ⟨x, dx, oa, dc, b, n, rfl, s1 _ _ hx2, (hK.trans (Keep.same s1)).l hx hL, fun r hr => ?_⟩
        walk_at "u"
        refine ite_d (fun h2 => ?_) (fun h2 => ?_)
        · walk_at "u"
          refine q _ _ s1 (decide_eq_decide.mpr ⟨fun z => Or.inr ⟨by omega, by omega⟩, fun z => ?_⟩)
          rcases z with z | z
          · exact absurd z h1
          · have := z.2; omega
        · refine q _ _ s1 (decide_eq_false fun z => ?_).symm
          rcases z with z | z
          · exact h1 z
          · exact h2 (by omega)
    · have hK3 : Keep x H H3 := hK.trans (Keep.same s3)
      have hx3 := s3 _ _ hx2
      have hf3 := s3 _ _ hf2
      have hD3 := dps_same s3 hD
      refine ite_d (fun hc => ?_) (fun hc => ?_)
      · rw [if_pos hc] at hR
        refine u_body ?_
        walk_at "u"
        refine r_meth T hx3 ?_
        walk_at "u"
        refine ⟨x, dx, oa, dc, b, n, 32, rfl, hx3, hK3.l hx hL, fun h32 H4 k4 hx4 => ?_, fun h32 => ?_⟩
        · have hlt := Sm.hd_lt (b := b) (n := n) (by omega)
          have hK4 := hK3.trans k4
          have hl4 : Sm.leastR l ≤ 1114111 := by
            rcases hc with hc | hc
            · subst hc; decide
            · exact hc.2
          rw [if_neg (by omega)] at hR
          walk_at "u"
          refine r_meth T hx4 ?_
          walk_at "u"
          refine ⟨by show 2 ≤ sizeLine; decide, fun p hp => ?_⟩
          walk_at "u"
          refine ⟨by show 1 ≤ sizeLine; decide, fun q hq => ?_⟩
          obtain ⟨hS, hSD⟩ := one_span (K := K) (hi := 1114111) hp hq
          have sq := (same_new (o := .tup [.int (Sm.leastR l : Nat), .int 1114111]) hp).trans (same_new (o := .lst [.ref p]) hq)
          have hK5 := hK4.trans (Keep.same (x := x) sq)
          refine ⟨x, dx, oa, dc, b, n + 1, q, _, [(Sm.leastR l, 1114111)], rfl, sq _ _ hx4, hK5.l hx hL, hS, hSD, (by intro s hs; rw [List.mem_singleton] at hs; subst hs; show 1114111 < 100000000; decide), fun k hk => ?_, fun lo k hk H6 k6 hx6 => ?_⟩
          · rw [hk] at hR
            exact Fl.on (kE _ hR) hK5
          · rw [hk] at hR
            dsimp only at hR
            have hK6 := hK5.trans k6
            walk_at "u"
            refine r_meth T hx6 ?_
            walk_at "u"
            refine ⟨x, dx, oa, dc, b, n + 1 + k, 45, rfl, hx6, hK6.l hx hL, fun h45 H7 k7 hx7 => ?_, fun h45 => ?_⟩
            · rw [if_neg (by omega)] at hR
              have hK7 := hK6.trans k7
              walk_at "u"
              refine r_meth T hx7 ?_
              walk_at "u"
              refine ⟨by show 2 ≤ sizeLine; decide, fun p2 hp2 => ?_⟩
              walk_at "u"
              refine ⟨by show 1 ≤ sizeLine; decide, fun q2 hq2 => ?_⟩
              obtain ⟨hS2, hSD2⟩ := one_span (K := K) (hi := 1114111) hp2 hq2
              have sq2 := (same_new (o := .tup [.int (lo : Nat), .int 1114111]) hp2).trans (same_new (o := .lst [.ref p2]) hq2)
              have hK8 := hK7.trans (Keep.same (x := x) sq2)
              have e1 : n + 1 + k + 1 = n + 2 + k := by omega
              rw [e1] at hx7
              refine ⟨x, dx, oa, dc, b, n + 2 + k, q2, _, [(lo, 1114111)], rfl, sq2 _ _ hx7, hK8.l hx hL, hS2, hSD2, (by intro s hs; rw [List.mem_singleton] at hs; subst hs; show 1114111 < 100000000; decide), fun j hj => ?_, fun hi j hj H9 k9 hx9 => ?_⟩
              · rw [hj] at hR
                exact Fl.on (kE _ hR) hK8
              · rw [hj] at hR
                dsimp only at hR
                have hK9 := hK8.trans k9
                have kk : Keep x H3 H9 := k4.trans ((Keep.same sq).trans (k6.trans (k7.trans ((Keep.same sq2).trans k9))))
                have hf9 : H9 fl = some (.lst us) := kk _ _ hf3 hflx
                have hD9 := kk.ds hx3 hD3
                walk_at "u"
                refine ⟨u_lty hf9, ?_⟩
                walk_at "u"
                refine ⟨by show 2 ≤ sizeLine; decide, fun t ht => ?_⟩
                walk_at "u"
                have hft : fl ≠ t := ne_of_none hf9 ht
                have hxt : x ≠ t := ne_of_none hx9 ht
                have hfl10 : upd H9 t (.tup [.int (lo : Nat), .int (hi : Nat)]) fl = some (.lst us) := (upd_ne hft).trans hf9
                have hle : l.length ≤ b.length := by
                  by_cases hl0 : l = []
                  · subst hl0; exact Nat.zero_le _
                  · exact hlb hl0
                refine u_append (xs := us) hfl10 (size_less (by omega)) ?_
                walk_at "u"
                refine ⟨m, by omega, n + 2 + k + j, (lo, hi) :: l, us ++ [.ref t], _, _, rfl, ?_, ?_, upd_same, ?_, hR, by omega, by rw [List.length_cons]; omega, fun _ => by rw [List.length_cons]; omega⟩
                · exact Keep.mut (hK9.trans (Keep.new ht)) hfl
                · exact (upd_ne hflx.symm).trans ((upd_ne hxt).trans hx9)
                · have kt : Kt H9 (upd (upd H9 t (.tup [.int (lo : Nat), .int (hi : Nat)])) fl (.lst (us ++ [.ref t]))) := (Kt.new ht).trans (Kt.upd hfl10 rfl)
                  rw [List.reverse_cons, List.map_append]
                  refine dps_app (kt.ds (tupDs_map tupD_S _) hD9) (dps_one (dp_mk2 (Or.inl (Or.inl ?_))))
                  exact (upd_ne hft.symm).trans upd_same
            · rw [if_pos (by omega)] at hR
              exact Fl.on (kE _ hR) hK6
        · rw [if_pos (by omega)] at hR
          exact Fl.on (kE _ hR) hK3
      · rw [if_neg hc] at hR
        walk_at "u"
        refine u_tupL (Or.inl (Or.inl hf3)) fun t ht => ?_
        have s4 := same_new (o := .tup us) ht
        exact kO _ _ hR _ _ (hK3.trans (Keep.same s4)) (s4 _ _ hx3) (.tup (Or.inl (Or.inl upd_same)) (dps_same s4 hD3))
end
end Sr
namespace Sr
open PySem PySem.Spec PyProof.Rows L2
open Fh (Bytes)
/-! ### classes -/
/-- all but what stands at x and at y -/
def Keep2 (x y : Addr) (H H' : Hp) : Prop := ∀ p o, H p = some o → p ≠ x → p ≠ y → H' p = some o
theorem Keep2.of {x y : Addr} {H H' : Hp} (k : Keep x H H') : Keep2 x y H H' := fun p o h n _ => k p o h n
theorem Keep2.trans {x y : Addr} {H H1 H2 : Hp} (a : Keep2 x y H H1) (b : Keep2 x y H1 H2) : Keep2 x y H H2 := fun p o h n m => b p o (a p o h n m) n m
theorem Keep2.upd {x y : Addr} {H : Hp} {o : HO} : Keep2 x y H (upd H y o) := fun p u h _ m => by rw [upd_ne m]; exact h
theorem Keep2.l {K : PySem.W.Frag} {x y a : Addr} {H H' : Hp} {xs : List V} {C dx : Addr} {fs : List (Str × V)} {kvs : List (Key × V)} (e : Keep2 x y H H') (hx : H x = some (.ins C dx fs)) (hy : H y = some (.dK kvs)) (h : SqL K H a xs) : SqL K H' a xs := by
  rcases h with h | h
  · refine Or.inl ?_
    rcases h with h | ⟨o, h⟩
    · exact Or.inl (e a _ h (fun z => by rw [z, hx] at h; cases h) (fun z => by rw [z, hy] at h; cases h))
    · exact Or.inr ⟨o, e a _ h (fun z => by rw [z, hx] at h; cases h) (fun z => by rw [z, hy] at h; cases h)⟩
  · exact Or.inr h
/-- the classes that a dict holds, in order -/
def CsAt (K : PySem.W.Frag) (H : Hp) (kvs : List (Key × V)) (cs : Sm.Clss) : Prop := Paired (fun (kv : Key × V) (c : Nat × Sm.Rngs) => kv.1 = Sum.inl (c.1 : Int) ∧ Dp K H kv.2 (encR c.2)) kvs cs
theorem CsAt.kt {K : PySem.W.Frag} {H H' : Hp} {kvs : List (Key × V)} {cs : Sm.Clss} (k : Kt H H') (h : CsAt K H kvs cs) : CsAt K H' kvs cs := L2.Paired.mapP h fun _ c z => ⟨z.1, k.d (tupD_R c.2) z.2⟩
theorem CsAt.keys {K : PySem.W.Frag} {H : Hp} : ∀ {kvs : List (Key × V)} {cs : Sm.Clss}, CsAt K H kvs cs → kvs.map (fun kv => kV kv.1) = cs.map (fun c => V.int (c.1 : Nat))
  | _, _, .nil => rfl
  | _, _, .cons h t => by
    rw [List.map_cons, List.map_cons, CsAt.keys t, h.1]
    rfl
theorem CsAt.none {K : PySem.W.Frag} {H : Hp} {n : Nat} : ∀ {kvs : List (Key × V)} {cs : Sm.Clss}, CsAt K H kvs cs → (∀ c ∈ cs, c.1 ≠ n) → valV kvs (.inl (n : Int)) = none
  | _, _, .nil, _ => rfl
  | _, _, .cons (a := kv) (b := c) h t, hn => by
    rw [valV_neg, CsAt.none t (fun c hc => hn c (List.mem_cons_of_mem _ hc))]
    rw [h.1]
    intro z
    have z2 : (c.1 : Int) = n := Sum.inl.inj z
    exact hn c List.mem_cons_self (by omega)
theorem CsAt.get {K : PySem.W.Frag} {H : Hp} {n : Nat} : ∀ {kvs : List (Key × V)} {cs : Sm.Clss}, CsAt K H kvs cs → ∀ {rs : Sm.Rngs}, cs.lookup n = some rs → ∃ v, valV kvs (.inl (n : Int)) = some v ∧ Dp K H v (encR rs)
  | _, _, .nil, _, h => by cases h
  | _, _, .cons (a := kv) (b := c) h t, rs, hl => by
    by_cases e : c.1 = n
    · have e2 : (n == c.1) = true := by rw [beq_iff_eq]; exact e.symm
      obtain ⟨c1, c2⟩ := c
      simp only [List.lookup, e2] at hl
      cases hl
      refine ⟨kv.2, ?_, h.2⟩
      rw [valV_pos]
      rw [h.1, ← e]
    · have e2 : (n == c.1) = false := by rw [beq_eq_false_iff_ne]; exact fun z => e z.symm
      obtain ⟨c1, c2⟩ := c
      simp only [List.lookup, e2] at hl
      obtain ⟨v, hv, hd⟩ := CsAt.get t hl
      refine ⟨v, ?_, hd⟩
      rw [valV_neg, hv]
      rw [h.1]
      intro z
      have z2 : ((c1 : Nat) : Int) = n := Sum.inl.inj z
      exact e (by show c1 = n; omega)
section
variable {P : Program} {w : World} {K : PySem.W.Frag} {mg : Str → Option Value} {base : Heap}
def Fl2 (T : Txt K mg) (E : XK) (x y : Addr) (H : Hp) (n : Nat) : Prop := ∀ d H', Keep2 x y H H' → H' d = some (.xd [(("place" : Str), .int (n : Int))]) → E (.ref T.CF) (some d) H'
theorem Fl2.on {T : Txt K mg} {E : XK} {x y : Addr} {H H' : Hp} {n : Nat} (f : Fl2 T E x y H n) (k : Keep2 x y H H') : Fl T E x H' n := fun d H2 k2 h => f d H2 (k.trans (Keep2.of k2)) h
theorem leastC_cons (a : Nat) (r : Sm.Rngs) (l : Sm.Clss) : Sm.leastC ((a, r) :: l) = a + 1 := rfl
def sp_Reading_read_classes (T : Txt K mg) : Sp := fun vs H Q E => ∃ (x dx oa dc : Addr) (b : Bytes) (i : Nat), vs = [.ref x] ∧ RAt T H x dx oa dc i ∧ LI K H oa (bI b) ∧ b.length ≤ 900000 ∧ H dc = some (.dK []) ∧
  (∀ k, Sm.classesL b (b.length + 1) i [] = .error k → Fl2 T E x dc H k) ∧
  ∀ cs n, Sm.classesL b (b.length + 1) i [] = .ok (cs, n) → ∀ H' kvs, Keep2 x dc H H' → RAt T H' x dx oa dc n → H' dc = some (.dK kvs) → CsAt K H' kvs cs → Q .non H'
theorem ok_Reading_read_classes (T : Txt K mg) : FnOk P w K mg base (L2.CX P w) 5 T.m_Reading_read_classes.a T.m_Reading_read_classes.fd ["self"] (sp_Reading_read_classes T) := by
  refine T.m_Reading_read_classes.F.okX sc_Reading_read_classes (fun vs H Q E h => ?_) (fun cdv A outer s H vs Q E hr h => ⟨_, (pss_cons (ps_set (i := 1) sc_Reading_read_classes.nd rfl (Or.inl rfl) pe_int)
 (pss_one (ps_while (passes_of rfl) (PW.pt (pw_and (pt_cmpR op_eq (pe_meth0 (pv 0) T.cl_Reading T.m_Reading_here.m (ok_Reading_here T) (hr.mono (by decide)) T.m_Reading_here.b .nil pass0) (pe_gi T.c_CLASS_SIGN) (nomark _)) (pw_and1 (pt_cmpR op_le (pv 1) (pe_gi T.c_LAST_CLASS) (nomark _))))) (pss_cons (sfldK K (pv 0) (pe_op op_add (fldK K (pv 0) rfl) pe_int) rfl)
 (pss_cons (ps_set (i := 2) sc_Reading_read_classes.nd rfl (Or.inl rfl) (pe_meth (pv 0) T.cl_Reading T.m_Reading_number.m (ok_Reading_number T) (hr.mono (by decide)) T.m_Reading_number.b .nil (passes_call (takes_of rfl rfl rfl rfl) (fun _ _ _ _ h => h)) (pa_cons (pe_lst (pa_cons (pe_tup (pa_cons (pv 1) (pa_cons (pe_gi T.c_LAST_CLASS) pa_nil))) pa_nil)) pa_nil)))
 (pss_cons (ps_dput (hu_of hr) (fldK K (pv 0) rfl) (pv 2) (pe_meth0 (pv 0) T.cl_Reading T.m_Reading_ranges.m (ok_Reading_ranges T) (hr.mono (by decide)) T.m_Reading_ranges.b .nil (passes_call (takes_of rfl rfl rfl rfl) (fun _ _ _ _ h => h))) rfl)
 (pss_cons (ps_expr (pe_meth (pv 0) T.cl_Reading T.m_Reading_take.m (ok_Reading_take T) (hr.mono (by decide)) T.m_Reading_take.b .nil (passes_call (takes_of rfl rfl rfl rfl) (fun _ _ _ _ h => h)) (pa_cons (pe_gi T.c_LINE_END_ruletexts) pa_nil)))
 (pss_one (ps_set (i := 1) sc_Reading_read_classes.nd rfl (Or.inl rfl) (pe_op op_add (pv 2) pe_int)))))))))), ?_⟩)
  · obtain ⟨_, _, _, _, _, _, rfl, _⟩ := h; rfl
  · obtain ⟨x, dx, oa, dc, b, i, rfl, hx, hL, hbl, hdc, kE, kO⟩ := h
    generalize hR0 : Sm.classesL b (b.length + 1) i [] = R at kE kO
    walk_at "u"
    refine f_while (fun m σ H' => ∃ (n : Nat) (l : Sm.Clss) (kvs : List (Key × V)) (v2 : Option V), σ = [some (.ref x), some (.int (Sm.leastC l : Nat)), v2] ∧ Keep2 x dc H H' ∧ RAt T H' x dx oa dc n ∧ H' dc = some (.dK kvs) ∧ CsAt K H' kvs l.reverse ∧
        R = Sm.classesL b m n l ∧ b.length - n < m ∧ (∀ c ∈ l, c.1 < Sm.leastC l) ∧ l.length ≤ Sm.leastC l) (m := b.length + 1)
      ⟨i, [], [], none, rfl, fun _ _ h _ _ => h, hx, hdc, .nil, hR0.symm, by omega, (fun c hc => nomatch hc), Nat.le_refl _⟩ ?_
    rintro m σ H' ⟨n, l, kvs, v2, rfl, hK, hx2, hd2, hC, hR, hm, hlt, hll⟩
    obtain ⟨m, rfl⟩ : ∃ j, m = j + 1 := ⟨m - 1, by omega⟩
    rw [Sm.classesL] at hR
    have hL2 := hK.l hx hdc hL
    refine tt_cut (decide (Sm.hd b n = 37 ∧ Sm.leastC l ≤ 15)) (fun QT q => ?_) (fun H3 s3 => ?_)
    · walk_at "u"
      refine r_meth T hx2 ?_
      walk_at "u"
      refine ⟨x, dx, oa, dc, b, n, rfl, hx2, hL2, fun r hr => ?_⟩
      walk_at "u"
      refine ite_d (fun h1 => ?_) (fun h1 => ?_)
      · walk_at "u"
        exact q _ _ (Same.refl _) (decide_eq_decide.mpr ⟨fun z => ⟨by omega, by omega⟩, fun z => by have := z.2; omega⟩)
      · exact q _ _ (Same.refl _) (decide_eq_false fun z => h1 (by omega)).symm
    · have hx3 := s3 _ _ hx2
      have hd3 := s3 _ _ hd2
      have hC3 := hC.kt (Kt.same s3)
      have hK3 : Keep2 x dc H H3 := hK.trans (Keep2.of (Keep.same s3))
      refine ite_d (fun hc => ?_) (fun hc => ?_)
      · rw [if_pos hc] at hR
        have hnl := Sm.hd_lt (b := b) (n := n) (by omega)
        refine u_body ?_
        walk_at "u"
        refine r_at T hx3 ?_
        walk_at "u"
        refine r_set T (j := n + 1) hx3 (by omega) ?_
        have k4 : Keep x H3 (upd H3 x (.ins T.C dx (rF oa (n + 1) dc))) := Keep.upd
        have hdx : dc ≠ x := fun z => by rw [z, hx3] at hd3; cases hd3
        have hx4 : RAt T (upd H3 x (.ins T.C dx (rF oa (n + 1) dc))) x dx oa dc (n + 1) := upd_same
        generalize upd H3 x (.ins T.C dx (rF oa (n + 1) dc)) = H4 at k4 hx4
        have hK4 := hK3.trans (Keep2.of k4)
        walk_at "u"
        refine r_meth T hx4 ?_
        walk_at "u"
        refine ⟨by show 2 ≤ sizeLine; decide, fun p hp => ?_⟩
        walk_at "u"
        refine ⟨by show 1 ≤ sizeLine; decide, fun q hq => ?_⟩
        obtain ⟨hS, hSD⟩ := one_span (K := K) (hi := 15) hp hq
        have sq := (same_new (o := .tup [.int (Sm.leastC l : Nat), .int 15]) hp).trans (same_new (o := .lst [.ref p]) hq)
        have hK5 := hK4.trans (Keep2.of (Keep.same (x := x) sq))
        refine ⟨x, dx, oa, dc, b, n + 1, q, _, [(Sm.leastC l, 15)], rfl, sq _ _ hx4, hK5.l hx hdc hL, hS, hSD, (by intro s hs; rw [List.mem_singleton] at hs; subst hs; show 15 < 100000000; decide), fun k hk => ?_, fun v k hk H6 k6 hx6 => ?_⟩
        · rw [hk] at hR
          exact Fl2.on (kE _ hR) hK5
        · have hin := Sm.num_in hk
          rw [Sm.inSp_one] at hin
          have hin2 := Sm.within_le hin
          rw [hk] at hR
          dsimp only at hR
          have hK6 := hK5.trans (Keep2.of k6)
          walk_at "u"
          refine r_meth T hx6 ?_
          walk_at "u"
          refine ⟨x, dx, oa, dc, b, n + 1 + k, rfl, hx6, hK6.l hx hdc hL, hbl, fun j hj => ?_, fun rs n2 hj u H7 k7 hx7 hd7 => ?_⟩
          · rw [hj] at hR
            exact Fl2.on (kE _ hR) hK6
          · rw [hj] at hR
            have hge := Sm.rangesL_ge _ _ _ _ _ hj
            have hK7 := hK6.trans (Keep2.of k7)
            have kk : Keep x H3 H7 := k4.trans ((Keep.same sq).trans (k6.trans k7))
            have hdc7 : H7 dc = some (.dK kvs) := kk _ _ hd3 hdx
            walk_at "u"
            refine r_classes T hx7 ?_
            walk_at "u"
            have hnone : valV kvs (.inl (v : Int)) = none := hC3.none fun c hc => by
              have := hlt c (List.mem_reverse.mp hc)
              omega
            have hkl : kvs.length = l.length := by rw [hC3.length, List.length_reverse]
            refine u_putI hdc7 (size_less (by omega)) ?_
            rw [putK_new u hnone]
            have kt8 : Kt H7 (upd H7 dc (.dK (kvs ++ [(.inl (v : Int), u)]))) := Kt.upd hdc7 rfl
            have hx8 : RAt T (upd H7 dc (.dK (kvs ++ [(.inl (v : Int), u)]))) x dx oa dc n2 := (upd_ne hdx.symm).trans hx7
            have hd8 : upd H7 dc (.dK (kvs ++ [(.inl (v : Int), u)])) dc = some (.dK (kvs ++ [(.inl (v : Int), u)])) := upd_same
            have hK8 : Keep2 x dc H (upd H7 dc (.dK (kvs ++ [(.inl (v : Int), u)]))) := hK7.trans Keep2.upd
            have hC8 : CsAt K (upd H7 dc (.dK (kvs ++ [(.inl (v : Int), u)]))) (kvs ++ [(.inl (v : Int), u)]) (l.reverse ++ [(v, rs)]) := Paired.snoc (hC3.kt ((kk.kt hx3).trans kt8)) ⟨rfl, kt8.d (tupD_R rs) hd7⟩
            generalize upd H7 dc (.dK (kvs ++ [(.inl (v : Int), u)])) = H8 at hx8 hd8 hK8 hC8
            walk_at "u"
            refine r_meth T hx8 ?_
            walk_at "u"
            refine ⟨x, dx, oa, dc, b, n2, 10, rfl, hx8, hK8.l hx hdc hL, fun h10 H9 k9 hx9 => ?_, fun h10 => ?_⟩
            · walk_at "u"
              have hR2 : R = Sm.classesL b m (n2 + 1) ((v, rs) :: l) := by
                rw [hR]
                show (match (if Sm.hd b n2 = 10 then Except.ok (rs, n2 + 1) else .error n2 : Except Nat (Sm.Rngs × Nat)) with | .error k => _ | .ok y => _) = _
                rw [if_pos h10]
              dsimp only at hge
              refine ⟨m, by omega, n2 + 1, (v, rs) :: l, _, _, rfl, hK8.trans (Keep2.of k9), hx9, k9 _ _ hd8 hdx, ?_, hR2, by omega, ?_, ?_⟩
              · rw [List.reverse_cons]
                exact hC8.kt (k9.kt hx8)
              · intro c hc
                rw [leastC_cons]
                rw [List.mem_cons] at hc
                rcases hc with rfl | hc
                · show v < v + 1; omega
                · have := hlt c hc; omega
              · rw [leastC_cons, List.length_cons]; omega
            · refine Fl2.on (kE _ ?_) hK8
              rw [hR]
              show (match (if Sm.hd b n2 = 10 then Except.ok (rs, n2 + 1) else .error n2 : Except Nat (Sm.Rngs × Nat)) with | .error k => _ | .ok y => _) = _
              rw [if_neg h10]
      · rw [if_neg hc] at hR
        exact kO _ _ hR _ _ hK3 hx3 hd3 hC3
end
end Sr
namespace Sr
open PySem PySem.Spec PyProof.Rows L2
open Fh (Bytes)
def natI (l : List Nat) : List Int := l.map fun (c : Nat) => (c : Int)
def encT (l : List Nat) : PyData := .tuple ((natI l).map PyData.int)
theorem tupD_T (l : List Nat) : tupD (encT l) = true := by unfold encT; rw [tupD]; exact tupDs_map (fun _ => rfl) _
def encA : Fh.Atom → PyData
  | .any => .tuple [.int 0, .int 0]
  | .cls k => .tuple [.int 1, .int k]
  | .lit t => .tuple [.int 2, encT t]
theorem tupD_A (a : Fh.Atom) : tupD (encA a) = true := by
  cases a with
  | any => rfl
  | cls k => rfl
  | lit t => show (true && (tupD (encT t) && true)) = true; rw [tupD_T]; rfl
def encI (i : Fh.Item) : PyData := .tuple [encA i.atom, .int i.least, .int i.most]
theorem tupD_I (i : Fh.Item) : tupD (encI i) = true := by show (tupD (encA i.atom) && (true && (true && true))) = true; rw [tupD_A]; rfl
section
variable {P : Program} {w : World} {K : PySem.W.Frag} {mg : Str → Option Value} {base : Heap}
theorem cutB_all (b : Bytes) (i : Nat) : cutB b i b.length = b.drop i := by unfold cutB; rw [List.take_length]
theorem natI_len (l : List Nat) : (natI l).length = l.length := List.length_map ..
theorem natI_nil {l : List Nat} : natI l.reverse = [] ↔ l = [] := by
  unfold natI
  rw [List.map_eq_nil_iff, List.reverse_eq_nil_iff]
def sp_Reading_certain (T : Txt K mg) : Sp := fun vs H Q E => ∃ (x dx oa dc : Addr) (b : Bytes) (i : Nat), vs = [.ref x] ∧ RAt T H x dx oa dc i ∧ LI K H oa (bI b) ∧ b.length ≤ 900000 ∧ i ≤ b.length ∧
  (∀ k, Sm.certL ((b.drop i).length + 1) 0 [] (b.drop i) = .error k → Fl T E x H (i + k)) ∧
  ∀ l n, Sm.certL ((b.drop i).length + 1) 0 [] (b.drop i) = .ok (l, n) → ∀ v H', Keep x H H' → RAt T H' x dx oa dc (i + n) → Dp K H' v (encT l) → Q v H'
theorem ok_Reading_certain (T : Txt K mg) : FnOk P w K mg base (L2.CX P w) 3 T.m_Reading_certain.a T.m_Reading_certain.fd ["self"] (sp_Reading_certain T) := by
  refine T.m_Reading_certain.F.okX sc_Reading_certain (fun vs H Q E h => ?_) (fun cdv A outer s H vs Q E hr h => ⟨_, (pss_cons (ps_set (i := 1) sc_Reading_certain.nd rfl (Or.inl rfl) (pe_lst pa_nil))
 (pss_cons (ps_while (passes_of rfl) (PW.pt (pw_or (pt_cmpR (eqDK K hr.units) (pv 1) (pe_lst pa_nil) (nomark _)) (pw_or1 (pt_cmpR op_ne (pe_meth0 (pv 0) T.cl_Reading T.m_Reading_here.m (ok_Reading_here T) (hr.mono (by decide)) T.m_Reading_here.b .nil pass0) (pe_gi T.c_QUOTE) (nomark _))))) (pss_cons (ps_asg (pe_call (ok_character_at T) (hr.mono (by decide)) rfl T.f_character_at.g T.f_character_at.F.kp T.f_character_at.b .nil pass0 (pa_cons (fldK K (pv 0) rfl) (pa_cons (fldK K (pv 0) rfl) (pa_cons (pe_callB (cr_len K) rfl T.b_len PySem.boot_len (pa_cons (fldK K (pv 0) rfl) pa_nil)) pa_nil)))) (gtK K (n := 2) rfl (pgs_cons (pg_name (i := 2) sc_Reading_certain.nd rfl (Or.inl rfl)) (pgs_cons (pg_name (i := 3) sc_Reading_certain.nd rfl (Or.inl rfl)) pgs_nil))))
 (pss_cons (ps_if (pt_cmpR op_lt (pv 2) pe_int (nomark _)) (pss_one (ps_rz rfl (takes_of rfl rfl rfl rfl) (pmk_oex T.ox T.ix T.tx (ok_Fault___init__ T) (hr.mono (by decide)) T.bI .nil pass0 rfl T.g_Fault (pa_cons (pv 3) pa_nil)))) pss_nil)
 (pss_cons (ps_if (pt_cmpR op_eq (pv 2) (pe_gi T.c_QUOTE) (nomark _)) (pss_one (ps_rz rfl (takes_of rfl rfl rfl rfl) (pmk_oex T.ox T.ix T.tx (ok_Fault___init__ T) (hr.mono (by decide)) T.bI .nil pass0 rfl T.g_Fault (pa_cons (fldK K (pv 0) rfl) pa_nil)))) pss_nil)
 (pss_cons (ps_expr (bmK K PySem.F.plainAttrs_list PySem.F.slot_list_append PySem.F.type_list_append mt_append (pv 1) (pa_cons (pv 2) pa_nil)))
 (pss_one (sfldK K (pv 0) (pv 3) rfl)))))))
 (pss_cons (sfldK K (pv 0) (pe_op op_add (fldK K (pv 0) rfl) pe_int) rfl)
 (pss_one (ps_ret (pe_callTy (cr_tuple K) rfl T.b_tuple (by decide +kernel) (pa_cons (pv 1) pa_nil))))))), ?_⟩)
  · obtain ⟨_, _, _, _, _, _, rfl, _⟩ := h; rfl
  · obtain ⟨x, dx, oa, dc, b, i, rfl, hx, hL, hbl, hib, kE, kO⟩ := h
    walk_at "u"
    refine ⟨by show 0 ≤ sizeLine; decide, fun fl hfl => ?_⟩
    have hflx : fl ≠ x := fun z => by rw [z, hx] at hfl; cases hfl
    have hbd : (b.drop i).length = b.length - i := List.length_drop ..
    generalize hR0 : Sm.certL ((b.drop i).length + 1) 0 [] (b.drop i) = R at kE kO
    walk_at "u"
    refine f_while (fun m σ H' => ∃ (n : Nat) (l : List Nat) (v2 v3 : Option V), σ = [some (.ref x), some (.ref fl), v2, v3] ∧ Keep x H H' ∧ RAt T H' x dx oa dc (i + n) ∧ H' fl = some (.lst ((natI l.reverse).map V.int)) ∧
        R = Sm.certL m n l (b.drop (i + n)) ∧ b.length - (i + n) < m ∧ l.length ≤ n ∧ i + n ≤ b.length) (m := (b.drop i).length + 1)
      ⟨0, [], none, none, rfl, Keep.new hfl, (upd_ne hflx.symm).trans hx, upd_same, hR0.symm, by rw [hbd]; omega, Nat.zero_le _, by omega⟩ ?_
    rintro m σ H' ⟨n, l, v2, v3, rfl, hK, hx2, hf2, hR, hm, hln, hnb⟩
    obtain ⟨m, rfl⟩ : ∃ j, m = j + 1 := ⟨m - 1, by omega⟩
    rw [Sm.certL, show Sm.headI (b.drop (i + n)) = Sm.hd b (i + n) from rfl] at hR
    have hL2 := hK.l hx hL
    refine tt_cut (decide (l = [] ∨ Sm.hd b (i + n) ≠ 34)) (fun QT q => ?_) (fun H3 s3 => ?_)
    · walk_at "u"
      refine ⟨by show 0 ≤ sizeLine; decide, fun e he => ?_⟩
      have s1 := same_new (o := .lst []) he
      refine u_eqL (ns := natI l.reverse) (ms := []) (same_l s1 (Or.inl (Or.inl hf2))) (li_of upd_same) ?_
      walk_at "u"
      refine ite_d (fun h1 => ?_) (fun h1 => ?_)
      · exact q _ _ s1 (decide_eq_true (Or.inl (natI_nil.mp h1))).symm
      · walk_at "u"
        refine r_meth T (s1 _ _ hx2) ?_
        walk_at "u"
        refine ⟨x, dx, oa, dc, b, i + n, rfl, s1 _ _ hx2, same_l s1 hL2, fun r hr => ?_⟩
        walk_at "u"
        refine q _ _ s1 (decide_eq_decide.mpr ⟨fun z => Or.inr (by omega), fun z => ?_⟩)
        rcases z with z | z
        · exact absurd (natI_nil.mpr z) h1
        · omega
    · have hK3 : Keep x H H3 := hK.trans (Keep.same s3)
      have hx3 := s3 _ _ hx2
      have hf3 := s3 _ _ hf2
      have hL3 := same_l s3 hL2
      refine ite_d (fun hc => ?_) (fun hc => ?_)
      · rw [if_pos hc] at hR
        refine u_body ?_
        walk_at "u"
        refine r_octets T hx3 ?_
        walk_at "u"
        refine r_at T hx3 ?_
        walk_at "u"
        refine r_octets T hx3 ?_
        walk_at "u"
        refine u_lenL hL3 ?_
        walk_at "u"
        rw [map_int_len, bI_len]
        refine ⟨oa, b, i + n, b.length, rfl, hL3, hnb, Nat.le_refl _, by omega, fun p H4 z s4 hz hp4 => ?_⟩
        rw [cutB_all, Sm.charM_eq] at hz
        have hx4 := s4 _ _ hx3
        have hK4 := hK3.trans (Keep.same (x := x) s4)
        walk_at "u"
        refine u_gt (SqT.of hp4) rfl ?_
        walk_at "u"
        cases hch : Fh.charHere (b.drop (i + n)) with
        | error k =>
          rw [hch] at hz hR
          have hz1 : z.1 = -1 ∧ z.2 = ((i + n + k : Nat) : Int) := by rw [hz]; exact ⟨rfl, rfl⟩
          rw [hz1.1, hz1.2]
          refine ite_d (fun h5 => ?_) (fun h5 => absurd (show (-1 : Int) < 0 by decide) h5)
          walk_at "u"
          refine r_raise T (n := i + (n + k)) (by omega) (Fl.on (kE _ hR) hK4)
        | ok y =>
          rw [hch] at hz hR
          have hz1 : z.1 = (y.1 : Int) ∧ z.2 = ((i + n + y.2 : Nat) : Int) := by rw [hz]; exact ⟨rfl, rfl⟩
          rw [hz1.1, hz1.2]
          have hpos := Sm.charHere_pos hch
          rw [List.length_drop] at hpos
          dsimp only at hR
          refine ite_d (fun h5 => absurd h5 (by omega)) (fun h5 => ?_)
          walk_at "u"
          refine ite_d (fun h6 => ?_) (fun h6 => ?_)
          · rw [if_pos (by omega)] at hR
            walk_at "u"
            refine r_at T hx4 ?_
            walk_at "u"
            exact r_raise T rfl (Fl.on (kE _ hR) hK4)
          · rw [if_neg (by omega)] at hR
            have hf4 := s4 _ _ hf3
            walk_at "u"
            refine ⟨u_lty hf4, ?_⟩
            walk_at "u"
            refine u_append hf4 (size_less (by rw [map_int_len, natI_len, List.length_reverse]; omega)) ?_
            walk_at "u"
            have hx5 : RAt T (upd H4 fl (.lst ((natI l.reverse).map V.int ++ [.int (y.1 : Int)]))) x dx oa dc (i + n) := (upd_ne hflx.symm).trans hx4
            refine r_set T (j := i + (n + y.2)) hx5 (by omega) ?_
            rw [List.drop_drop] at hR
            refine ⟨m, by omega, n + y.2, y.1 :: l, _, _, rfl, ?_, upd_same, ?_, ?_, by omega, by rw [List.length_cons]; omega, by omega⟩
            · exact (Keep.mut hK4 hfl).trans Keep.upd
            · rw [upd_ne hflx, upd_same, List.reverse_cons]
              unfold natI
              rw [List.map_append, List.map_append]
              rfl
            · rw [hR]; congr 2; omega
      · rw [if_neg hc] at hR
        walk_at "u"
        refine r_at T hx3 ?_
        walk_at "u"
        have h34 : Sm.hd b (i + n) = 34 := Decidable.byContradiction fun z => hc (Or.inr z)
        refine r_set T (j := i + (n + 1)) hx3 (by omega) ?_
        walk_at "u"
        have hf4 : upd H3 x (.ins T.C dx (rF oa (i + (n + 1)) dc)) fl = some (.lst ((natI l.reverse).map V.int)) := (upd_ne hflx).trans hf3
        refine u_tupL (Or.inl (Or.inl hf4)) fun t ht => ?_
        have htx : x ≠ t := fun z => by rw [← z, upd_same] at ht; cases ht
        exact kO _ _ hR _ _ ((hK3.trans Keep.upd).trans (Keep.new ht)) ((upd_ne htx).trans upd_same) (.tup (Or.inl (Or.inl upd_same)) (dp_ints _))
theorem at_tup0 {K : PySem.W.Frag} {H : Hp} {a b : V} : atI [a, b] 0 = some a := rfl
def sp_Reading_atom (T : Txt K mg) : Sp := fun vs H Q E => ∃ (x dx oa dc : Addr) (b : Bytes) (i : Nat) (kvs : List (Key × V)) (cs : Sm.Clss), vs = [.ref x] ∧ RAt T H x dx oa dc i ∧ LI K H oa (bI b) ∧ b.length ≤ 900000 ∧ H dc = some (.dK kvs) ∧ CsAt K H kvs cs ∧ (∀ c ∈ cs, c.1 ≤ 15) ∧ cs.length ≤ 16 ∧
  (∀ k, Sm.atomM (cs.map fun c => c.1) (b.drop i) = .error k → Fl T E x H (i + k)) ∧
  ∀ a n, Sm.atomM (cs.map fun c => c.1) (b.drop i) = .ok (a, n) → ∀ v H', Keep x H H' → RAt T H' x dx oa dc (i + n) → Dp K H' v (encA a) → Q v H'
theorem own_enc (cs : Sm.Clss) : (Sm.own (cs.map fun c => c.1)) = cs.map fun c => (c.1, c.1) := by unfold Sm.own; rw [List.map_map]; rfl
theorem ok_Reading_atom (T : Txt K mg) : FnOk P w K mg base (L2.CX P w) 4 T.m_Reading_atom.a T.m_Reading_atom.fd ["self"] (sp_Reading_atom T) := by
  refine T.m_Reading_atom.F.okX sc_Reading_atom (fun vs H Q E h => ?_) (fun cdv A outer s H vs Q E hr h => ⟨_, (pss_cons (ps_set (i := 1) sc_Reading_atom.nd rfl (Or.inl rfl) (pe_meth0 (pv 0) T.cl_Reading T.m_Reading_here.m (ok_Reading_here T) (hr.mono (by decide)) T.m_Reading_here.b .nil pass0))
 (pss_cons (ps_if (PW.pt (pw_or (pt_cmpR (ninK K) (pv 1) (pe_tup (pa_cons (pe_gi T.c_DOT) (pa_cons (pe_gi T.c_CLASS_SIGN) (pa_cons (pe_gi T.c_QUOTE) pa_nil)))) (by rfl)) (pw_or1 (PW.pt (pw_and (pt_cmpR op_eq (pv 1) (pe_gi T.c_CLASS_SIGN) (nomark _)) (pw_and1 (pt_cmpR (op_eqDict hr.units) (fldK K (pv 0) rfl) pe_dnewK (nomark _)))))))) (pss_one (ps_rz rfl (takes_of rfl rfl rfl rfl) (pmk_oex T.ox T.ix T.tx (ok_Fault___init__ T) (hr.mono (by decide)) T.bI .nil pass0 rfl T.g_Fault (pa_cons (fldK K (pv 0) rfl) pa_nil)))) pss_nil)
 (pss_cons (sfldK K (pv 0) (pe_op op_add (fldK K (pv 0) rfl) pe_int) rfl)
 (pss_cons (ps_if (pt_cmpR op_eq (pv 1) (pe_gi T.c_DOT) (nomark _)) (pss_one (ps_ret (pe_tup (pa_cons (pe_gi T.c_ANY) (pa_cons pe_int pa_nil))))) pss_nil)
 (pss_cons (ps_if (pt_cmpR op_eq (pv 1) (pe_gi T.c_CLASS_SIGN) (nomark _)) (pss_one (ps_ret (pe_tup (pa_cons (pe_gi T.c_OF_CLASS) (pa_cons (pe_meth (pv 0) T.cl_Reading T.m_Reading_number.m (ok_Reading_number T) (hr.mono (by decide)) T.m_Reading_number.b .nil (passes_call (takes_of rfl rfl rfl rfl) (fun _ _ _ _ h => h)) (pa_cons (pe_lc (own := [("number", 2)]) rfl sc_Reading_atom.nd (piLK K (pe_callTy (call_list_dK rfl) rfl T.b_list (by decide +kernel) (pa_cons (fldK K (pv 0) rfl) pa_nil))) (blkOk_by (own := [("number", 2)]) (N := ["self", "sign", "number"]) (sc := defScope s_Reading_atom) (by decide +kernel)) (fun _ _ _ _ _ => (pg_name (i := 2) sc_Reading_atom.nd rfl (Or.inl rfl))) (fun _ _ _ _ _ => pts_nil) (fun _ _ _ _ _ => (pe_tup (pa_cons (pv 2) (pa_cons (pv 2) pa_nil))))) pa_nil)) pa_nil))))) pss_nil)
 (pss_one (ps_ret (pe_tup (pa_cons (pe_gi T.c_CERTAIN) (pa_cons (pe_meth0 (pv 0) T.cl_Reading T.m_Reading_certain.m (ok_Reading_certain T) (hr.mono (by decide)) T.m_Reading_certain.b .nil (passes_call (takes_of rfl rfl rfl rfl) (fun _ _ _ _ h => h))) pa_nil)))))))))), ?_⟩)
  · obtain ⟨_, _, _, _, _, _, _, _, rfl, _⟩ := h; rfl
  · obtain ⟨x, dx, oa, dc, b, i, kvs, cs, rfl, hx, hL, hbl, hdc, hC, hc15, hcl, kE, kO⟩ := h
    walk_at "u"
    refine r_meth T hx ?_
    walk_at "u"
    refine ⟨x, dx, oa, dc, b, i, rfl, hx, hL, fun r hr => ?_⟩
    walk_at "ui"
    have hkl : kvs.length = cs.length := hC.length
    have hdx : dc ≠ x := fun z => by rw [z, hx] at hdc; cases hdc
    refine tt_cut (decide (¬ (r = 46 ∨ r = 37 ∨ r = 34) ∨ (r = 37 ∧ cs = []))) (fun QT q => ?_) (fun H3 s3 => ?_)
    · walk_at "u"
      refine ⟨by show 3 ≤ sizeLine; decide, fun p hp => ?_⟩
      have s1 := same_new (o := .tup [.int 46, .int 37, .int 34]) hp
      refine u_nin (Or.inr (SqT.of upd_same)) rfl rfl ?_
      walk_at "u"
      have e1 : inV (.int r) [.int 46, .int 37, .int 34] = decide (r = 46 ∨ r = 37 ∨ r = 34) := by
        simp only [inV, List.any_cons, eqV, List.any_nil, Bool.or_false]
        rw [Bool.eq_iff_iff]
        simp only [Bool.or_eq_true, beq_iff_eq, decide_eq_true_eq]
        omega
      rw [e1]
      refine ite_nd (fun h1 => ?_) (fun h1 => ?_)
      · exact q _ _ s1 (decide_eq_true (Or.inl h1)).symm
      · walk_at "u"
        refine ite_d (fun h2 => ?_) (fun h2 => ?_)
        · walk_at "u"
          refine r_classes T (s1 _ _ hx) ?_
          walk_at "u"
          intro e he
          have s2 := s1.trans (same_new (o := .dK []) he)
          refine u_eqE (s2 _ _ hdc) upd_same ?_
          walk_at "u"
          refine q _ _ s2 ?_
          have e2 : kvs.isEmpty = decide (cs = []) := by
            cases cs with
            | nil => rw [List.length_eq_zero_iff.mp hkl]; rfl
            | cons c t =>
              cases kvs with
              | nil => cases hkl
              | cons a t2 => rfl
          rw [e2]
          exact decide_eq_decide.mpr ⟨fun z => Or.inr ⟨h2, z⟩, fun z => z.elim (fun z => absurd h1 z) (fun z => z.2)⟩
        · refine q _ _ s1 (decide_eq_false fun z => ?_).symm
          rcases z with z | z
          · exact z h1
          · exact h2 z.1
    · have hx3 := s3 _ _ hx
      have hdc3 := s3 _ _ hdc
      have hne : (cs.map fun c => c.1) ≠ [] ↔ cs ≠ [] := by simp
      refine ite_d (fun hb => ?_) (fun hb => ?_)
      · walk_at "u"
        refine r_at T hx3 ?_
        walk_at "u"
        refine r_raise T (n := i) rfl (Fl.on (kE 0 ?_) (Keep.same s3))
        cases hd : b.drop i with
        | nil => rfl
        | cons c t =>
          have hrc : r = c.toNat := hr.trans (Sm.hd_cons hd)
          rw [Sm.atomM, if_neg (by rcases hb with z | z <;> omega), if_neg (fun z => hb.elim (fun y => y (by omega)) (fun y => hne.mp z.2 y.2)), if_neg (by rcases hb with z | z <;> omega)]
      · have hlt : i < b.length := Sm.hd_lt (by rw [← hr]; omega)
        obtain ⟨c, hc, hh, hd⟩ := hd_some hlt
        have hrc : r = c.toNat := hr.trans hh
        rw [hd] at kE kO
        walk_at "u"
        refine r_at T hx3 ?_
        walk_at "u"
        refine r_set T (j := i + 1) hx3 (by omega) ?_
        have hx4 : RAt T (upd H3 x (.ins T.C dx (rF oa (i + 1) dc))) x dx oa dc (i + 1) := upd_same
        have k4 : Keep x H (upd H3 x (.ins T.C dx (rF oa (i + 1) dc))) := (Keep.same s3).trans Keep.upd
        generalize upd H3 x (.ins T.C dx (rF oa (i + 1) dc)) = H4 at hx4 k4
        walk_at "u"
        refine ite_d (fun h5 => ?_) (fun h5 => ?_)
        · walk_at "u"
          refine ⟨by show 2 ≤ sizeLine; decide, fun p hp => ?_⟩
          have s5 := same_new (o := .tup [.int 0, .int 0]) hp
          refine kO .any 1 ?_ _ _ (k4.trans (Keep.same s5)) (s5 _ _ hx4) (dp_mk2 (SqT.of upd_same))
          rw [Sm.atomM, if_pos (by omega)]
        · walk_at "u"
          refine ite_d (fun h6 => ?_) (fun h6 => ?_)
          · have hcs : cs ≠ [] := fun z => hb (Or.inr ⟨h6, z⟩)
            have hat : Sm.atomM (cs.map fun c => c.1) (c :: b.drop (i + 1)) = match Sm.numM (Sm.own (cs.map fun c => c.1)) (b.drop (i + 1)) with
                | .ok x => .ok (.cls x.1, x.2 + 1)
                | .error k => .error (k + 1) := by
              rw [Sm.atomM, if_neg (by omega), if_pos ⟨by omega, hne.mpr hcs⟩]
              all_goals (cases Sm.numM (Sm.own (cs.map fun c => c.1)) (b.drop (i + 1)) <;> rfl)
            rw [hat, own_enc] at kE kO
            walk_at "u"
            refine r_meth T hx4 ?_
            walk_at "u"
            refine r_classes T hx4 ?_
            walk_at "u"
            have hdc4 := k4 _ _ hdc hdx
            refine ⟨dc, kvs, rfl, hdc4, fun l hl => ?_⟩
            have s5 := same_new (o := .lst (kvs.map fun kv => kV kv.1)) hl
            have hx5 := s5 _ _ hx4
            have k5 := k4.trans (Keep.same (x := x) s5)
            have hl5 : upd H4 l (.lst (kvs.map fun kv => kV kv.1)) l = some (.lst (kvs.map fun kv => kV kv.1)) := upd_same
            generalize upd H4 l (.lst (kvs.map fun kv => kV kv.1)) = H5 at hx5 k5 hl5
            refine c_list (K := K) (a := l) (xs := kvs.map fun kv => kV kv.1) (fun D j H' => ∃ us, H' D = some (.lst us) ∧ DpAll K H' us ((cs.take j).map fun c => encS (c.1, c.1)) ∧ Same H5 H') (Or.inl (Or.inl hl5)) (fun D hD => ⟨[], upd_same, .nil, same_new hD⟩) (fun D j H' hD _ ⟨_, _, _, s⟩ => same_l s (Or.inl (Or.inl hl5))) ?_ ?_
            · rintro D j y H' hD hy ⟨us, hu, hdp, s6⟩
              rw [hC.keys, List.getElem?_map] at hy
              obtain ⟨cc, hcc, rfl⟩ := Option.map_eq_some_iff.mp hy
              have hj : j < cs.length := (List.getElem?_eq_some_iff.mp hcc).1
              walk_at "u"
              refine ⟨rfl, ?_⟩
              walk_at "u"
              refine ⟨by show 2 ≤ sizeLine; decide, fun t ht => ?_⟩
              have hDt : D ≠ t := ne_of_none hu ht
              have hu7 : upd H' t (.tup [.int (cc.1 : Nat), .int (cc.1 : Nat)]) D = some (.lst us) := (upd_ne hDt).trans hu
              have hul : us.length = (cs.take j).length := by rw [dps_len hdp, List.length_map]
              refine ⟨us, hu7, size_less (by rw [hul, List.length_take]; omega), ?_⟩
              refine ⟨us ++ [.ref t], upd_same, ?_, same_mut (same_then s6 ht) hD⟩
              rw [List.take_add_one, hcc, List.map_append]
              have kt : Kt H' (upd (upd H' t (.tup [.int (cc.1 : Nat), .int (cc.1 : Nat)])) D (.lst (us ++ [.ref t]))) := (Kt.new ht).trans (Kt.upd hu7 rfl)
              refine dps_app (kt.ds (tupDs_map (fun c => tupD_S _) _) hdp) (dps_one (dp_mk2 (SqT.of ?_)))
              exact (upd_ne hDt.symm).trans upd_same
            · rintro D H' hD ⟨us, hu, hdp, s6⟩
              have e7 : (cs.take (kvs.map fun kv => kV kv.1).length).map (fun c => encS (c.1, c.1)) = (cs.map fun c => (c.1, c.1)).map encS := by
                rw [List.length_map, hkl, List.take_length, List.map_map]; rfl
              rw [e7] at hdp
              walk_at "u"
              have k6 := k5.trans (Keep.same (x := x) s6)
              refine ⟨x, dx, oa, dc, b, i + 1, D, us, cs.map fun c => (c.1, c.1), rfl, s6 _ _ hx5, k6.l hx hL, Or.inl (Or.inl hu), hdp, ?_, fun k hk => ?_, fun v k hk H7 k7 hx7 => ?_⟩
              · intro s hs
                obtain ⟨c, hc, rfl⟩ := List.mem_map.mp hs
                have := hc15 c hc
                show c.1 < 100000000
                omega
              · rw [hk] at kE
                have := kE (k + 1) rfl
                rw [show i + (k + 1) = i + 1 + k by omega] at this
                exact Fl.on this k6
              · rw [hk] at kO
                walk_at "u"
                refine ⟨by show 2 ≤ sizeLine; decide, fun t ht => ?_⟩
                have s8 := same_new (o := .tup [.int 1, .int (v : Nat)]) ht
                rw [show i + 1 + k = i + (k + 1) by omega] at hx7
                exact kO (.cls v) (k + 1) rfl _ _ ((k6.trans k7).trans (Keep.same s8)) (s8 _ _ hx7) (dp_mk2 (SqT.of upd_same))
          · have h34 : c.toNat = 34 := by omega
            have hat : Sm.atomM (cs.map fun c => c.1) (c :: b.drop (i + 1)) = match Sm.certL ((b.drop (i + 1)).length + 1) 0 [] (b.drop (i + 1)) with
                | .ok x => .ok (.lit x.1, x.2 + 1)
                | .error k => .error (k + 1) := by
              rw [Sm.atomM, if_neg (by omega), if_neg (fun z => by omega), if_pos h34]
              all_goals (cases Sm.certL ((b.drop (i + 1)).length + 1) 0 [] (b.drop (i + 1)) <;> rfl)
            rw [hat] at kE kO
            walk_at "u"
            refine r_meth T hx4 ?_
            walk_at "u"
            refine ⟨x, dx, oa, dc, b, i + 1, rfl, hx4, k4.l hx hL, hbl, by omega, fun k hk => ?_, fun l k hk v H7 k7 hx7 hv => ?_⟩
            · rw [hk] at kE
              have := kE (k + 1) rfl
              rw [show i + (k + 1) = i + 1 + k by omega] at this
              exact Fl.on this k4
            · rw [hk] at kO
              walk_at "u"
              refine ⟨by show 2 ≤ sizeLine; decide, fun t ht => ?_⟩
              have s8 := same_new (o := .tup [.int 2, v]) ht
              rw [show i + 1 + k = i + (k + 1) by omega] at hx7
              exact kO (.lit l) (k + 1) rfl _ _ ((k4.trans k7).trans (Keep.same s8)) (s8 _ _ hx7) (.tup (SqT.of upd_same) (.cons (.int 2) (.cons (dp_same s8 hv) .nil)))
end
end Sr
namespace Sr
open PySem PySem.Spec PyProof.Rows L2
open Fh (Bytes)
section
variable {P : Program} {w : World} {K : PySem.W.Frag} {mg : Str → Option Value} {base : Heap}
/-- all that reading goes on -/
structure RSt (T : Txt K mg) (H : Hp) (x dx oa dc : Addr) (b : Bytes) (i : Nat) (kvs : List (Key × V)) (cs : Sm.Clss) : Prop where
  at_ : RAt T H x dx oa dc i
  oc : LI K H oa (bI b)
  bl : b.length ≤ 900000
  hd : H dc = some (.dK kvs)
  cl : CsAt K H kvs cs
  c15 : ∀ c ∈ cs, c.1 ≤ 15
  c16 : cs.length ≤ 16
theorem RSt.on {T : Txt K mg} {H H' : Hp} {x dx oa dc : Addr} {b : Bytes} {i j : Nat} {kvs : List (Key × V)} {cs : Sm.Clss} (r : RSt T H x dx oa dc b i kvs cs) (k : Keep x H H') (h : RAt T H' x dx oa dc j) : RSt T H' x dx oa dc b j kvs cs :=
  ⟨h, k.l r.at_ r.oc, r.bl, k _ _ r.hd (fun z => by have := r.hd; rw [z, r.at_] at this; cases this), r.cl.kt (k.kt r.at_), r.c15, r.c16⟩
theorem RSt.same {T : Txt K mg} {H H' : Hp} {x dx oa dc : Addr} {b : Bytes} {i : Nat} {kvs : List (Key × V)} {cs : Sm.Clss} (r : RSt T H x dx oa dc b i kvs cs) (k : Same H H') : RSt T H' x dx oa dc b i kvs cs := r.on (Keep.same k) (k _ _ r.at_)
abbrev keysOf (cs : Sm.Clss) : List Nat := cs.map fun c => c.1
def sp_Reading_item (T : Txt K mg) : Sp := fun vs H Q E => ∃ (x dx oa dc : Addr) (b : Bytes) (i : Nat) (kvs : List (Key × V)) (cs : Sm.Clss), vs = [.ref x] ∧ RSt T H x dx oa dc b i kvs cs ∧
  (∀ k, Sm.itemM (keysOf cs) (b.drop i) = .error k → Fl T E x H (i + k)) ∧
  ∀ a n, Sm.itemM (keysOf cs) (b.drop i) = .ok (a, n) → ∀ v H', Keep x H H' → RAt T H' x dx oa dc (i + n) → Dp K H' v (encI a) → Q v H'
theorem dp_item {H : Hp} {p : Addr} {va : V} {a : Fh.Atom} {lo hi : Nat} (h : SqT K H p [va, .int lo, .int hi]) (ha : Dp K H va (encA a)) : Dp K H (.ref p) (encI ⟨a, lo, hi⟩) := .tup h (.cons ha (.cons (.int _) (.cons (.int _) .nil)))
theorem ok_Reading_item (T : Txt K mg) : FnOk P w K mg base (L2.CX P w) 5 T.m_Reading_item.a T.m_Reading_item.fd ["self"] (sp_Reading_item T) := by
  refine T.m_Reading_item.F.okX sc_Reading_item (fun vs H Q E h => ?_) (fun cdv A outer s H vs Q E hr h => ⟨_, (pss_cons (ps_set (i := 1) sc_Reading_item.nd rfl (Or.inl rfl) (pe_meth0 (pv 0) T.cl_Reading T.m_Reading_atom.m (ok_Reading_atom T) (hr.mono (by decide)) T.m_Reading_atom.b .nil (passes_call (takes_of rfl rfl rfl rfl) (fun _ _ _ _ h => h))))
 (pss_cons (ps_if (pt_cmpR op_ne (pe_meth0 (pv 0) T.cl_Reading T.m_Reading_here.m (ok_Reading_here T) (hr.mono (by decide)) T.m_Reading_here.b .nil pass0) (pe_gi T.c_STAR) (nomark _)) (pss_one (ps_ret (pe_tup (pa_cons (pv 1) (pa_cons pe_int (pa_cons pe_int pa_nil)))))) pss_nil)
 (pss_cons (sfldK K (pv 0) (pe_op op_add (fldK K (pv 0) rfl) pe_int) rfl)
 (pss_cons (ps_set (i := 2) sc_Reading_item.nd rfl (Or.inl rfl) (pe_meth (pv 0) T.cl_Reading T.m_Reading_number.m (ok_Reading_number T) (hr.mono (by decide)) T.m_Reading_number.b .nil (passes_call (takes_of rfl rfl rfl rfl) (fun _ _ _ _ h => h)) (pa_cons (pe_lst (pa_cons (pe_tup (pa_cons pe_int (pa_cons (pe_gi T.c_MOST_TIMES) pa_nil))) pa_nil)) pa_nil)))
 (pss_cons (ps_expr (pe_meth (pv 0) T.cl_Reading T.m_Reading_take.m (ok_Reading_take T) (hr.mono (by decide)) T.m_Reading_take.b .nil (passes_call (takes_of rfl rfl rfl rfl) (fun _ _ _ _ h => h)) (pa_cons (pe_gi T.c_MINUS) pa_nil)))
 (pss_one (ps_ret (pe_tup (pa_cons (pv 1) (pa_cons (pv 2) (pa_cons (pe_meth (pv 0) T.cl_Reading T.m_Reading_number.m (ok_Reading_number T) (hr.mono (by decide)) T.m_Reading_number.b .nil (passes_call (takes_of rfl rfl rfl rfl) (fun _ _ _ _ h => h)) (pa_cons (pe_lst (pa_cons (pe_tup (pa_cons (pe_ifExp (pt_cmpR op_eq (pv 2) pe_int (nomark _)) pe_int (pv 2)) (pa_cons (pe_gi T.c_MOST_TIMES) pa_nil))) pa_nil)) pa_nil)) pa_nil))))))))))), ?_⟩)
  · obtain ⟨_, _, _, _, _, _, _, _, rfl, _⟩ := h; rfl
  · obtain ⟨x, dx, oa, dc, b, i, kvs, cs, rfl, hr0, kE, kO⟩ := h
    unfold Sm.itemM at kE kO
    walk_at "u"
    refine r_meth T hr0.at_ ?_
    walk_at "u"
    refine ⟨x, dx, oa, dc, b, i, kvs, cs, rfl, hr0.at_, hr0.oc, hr0.bl, hr0.hd, hr0.cl, hr0.c15, hr0.c16, fun k hk => ?_, fun a n hk v H1 k1 hx1 hv1 => ?_⟩
    · rw [show keysOf cs = cs.map fun c => c.1 from rfl, hk] at kE
      exact kE k rfl
    · rw [show keysOf cs = cs.map fun c => c.1 from rfl, hk] at kE kO
      dsimp only at kE kO
      rw [List.drop_drop] at kE kO
      unfold Sm.timesM at kE kO
      have r1 := hr0.on k1 hx1
      walk_at "u"
      refine r_meth T hx1 ?_
      walk_at "u"
      refine ⟨x, dx, oa, dc, b, i + n, rfl, hx1, r1.oc, fun r hr => ?_⟩
      rw [show Sm.headI (b.drop (i + n)) = r from hr.symm] at kE kO
      walk_at "u"
      refine ite_d (fun h1 => ?_) (fun h1 => ?_)
      · rw [if_pos h1] at kO
        walk_at "u"
        refine ⟨by show 3 ≤ sizeLine; decide, fun t ht => ?_⟩
        have s2 := same_new (o := .tup [v, .int 1, .int 1]) ht
        exact kO _ _ rfl _ _ (k1.trans (Keep.same s2)) (s2 _ _ hx1) (dp_item (SqT.of upd_same) (dp_same s2 hv1))
      · rw [if_neg h1, List.drop_drop] at kE kO
        walk_at "u"
        refine r_at T hx1 ?_
        walk_at "u"
        refine r_set T (j := i + n + 1) hx1 (by omega) ?_
        have hx2 : RAt T (upd H1 x (.ins T.C dx (rF oa (i + n + 1) dc))) x dx oa dc (i + n + 1) := upd_same
        have k2 : Keep x H1 (upd H1 x (.ins T.C dx (rF oa (i + n + 1) dc))) := Keep.upd
        generalize upd H1 x (.ins T.C dx (rF oa (i + n + 1) dc)) = H2 at hx2 k2
        have hv2 := (k2.kt hx1).d (tupD_A a) hv1
        walk_at "u"
        refine r_meth T hx2 ?_
        walk_at "u"
        refine ⟨by show 2 ≤ sizeLine; decide, fun p hp => ?_⟩
        walk_at "u"
        refine ⟨by show 1 ≤ sizeLine; decide, fun q hq => ?_⟩
        obtain ⟨hS, hSD⟩ := one_span (K := K) (lo := 0) (hi := 32) hp hq
        have sq := (same_new (o := .tup [.int (0 : Nat), .int 32]) hp).trans (same_new (o := .lst [.ref p]) hq)
        have k3 := (k1.trans k2).trans (Keep.same (x := x) sq)
        refine ⟨x, dx, oa, dc, b, i + n + 1, q, _, [(0, 32)], rfl, sq _ _ hx2, k3.l hr0.at_ hr0.oc, hS, hSD, (by intro s hs; rw [List.mem_singleton] at hs; subst hs; show 32 < 100000000; decide), fun j hj => ?_, fun lo j hj H4 k4 hx4 => ?_⟩
        · rw [hj] at kE
          have := kE (n + (j + 1)) rfl
          rw [show i + (n + (j + 1)) = i + n + 1 + j by omega] at this
          exact Fl.on this k3
        · rw [hj] at kE kO
          dsimp only at kE kO
          rw [List.drop_drop, List.drop_drop] at kE kO
          rw [show Sm.headI (b.drop (i + n + (1 + j))) = Sm.hd b (i + n + 1 + j) by rw [show i + n + (1 + j) = i + n + 1 + j by omega]; rfl] at kE kO
          have k5 := k3.trans k4
          have hv4 := (k4.kt (sq _ _ hx2)).d (tupD_A a) (dp_same sq hv2)
          walk_at "u"
          refine r_meth T hx4 ?_
          walk_at "u"
          refine ⟨x, dx, oa, dc, b, i + n + 1 + j, 45, rfl, hx4, k5.l hr0.at_ hr0.oc, fun h45 H5 k6 hx5 => ?_, fun h45 => ?_⟩
          · rw [if_neg (by omega)] at kE kO
            have k7 := k5.trans k6
            have hv5 := (k6.kt hx4).d (tupD_A a) hv4
            walk_at "u"
            refine r_meth T hx5 ?_
            walk_at "u"
            have fin : ∀ z : Nat, z = (if lo = 1 then 2 else lo) → ∀ H6, Same H5 H6 → ∀ (p2 : Addr), H6 p2 = none → ∀ q2, upd H6 p2 (.tup [.int (z : Nat), .int 32]) q2 = none →
                sp_Reading_number T [.ref x, .ref q2] (upd (upd H6 p2 (.tup [.int (z : Nat), .int 32])) q2 (.lst [.ref p2])) (fun u H7 => [v, V.int lo, u].length ≤ sizeLine ∧ ∀ p, H7 p = none → Q (.ref p) (upd H7 p (.tup [v, .int lo, u]))) E := by
              intro z hz H6 s6 p2 hp2 q2 hq2
              obtain ⟨hS2, hSD2⟩ := one_span (K := K) (lo := z) (hi := 32) hp2 hq2
              have sq2 := s6.trans ((same_new (o := .tup [.int (z : Nat), .int 32]) hp2).trans (same_new (o := .lst [.ref p2]) hq2))
              have k8 := k7.trans (Keep.same (x := x) sq2)
              refine ⟨x, dx, oa, dc, b, i + n + 1 + j + 1, q2, _, [(z, 32)], rfl, sq2 _ _ hx5, k8.l hr0.at_ hr0.oc, hS2, hSD2, (by intro s hs; rw [List.mem_singleton] at hs; subst hs; show 32 < 100000000; decide), fun m hm => ?_, fun hi m hm H9 k9 hx9 => ?_⟩
              · rw [show i + n + (j + 2) = i + n + 1 + j + 1 by omega, ← hz, hm] at kE
                have := kE (n + (j + 2 + m)) rfl
                rw [show i + (n + (j + 2 + m)) = i + n + 1 + j + 1 + m by omega] at this
                exact Fl.on this k8
              · rw [show i + n + (j + 2) = i + n + 1 + j + 1 by omega, ← hz, hm] at kO
                refine ⟨by show 3 ≤ sizeLine; decide, fun t ht => ?_⟩
                have s10 := same_new (o := .tup [v, .int (lo : Nat), .int (hi : Nat)]) ht
                rw [show i + n + 1 + j + 1 + m = i + (n + (j + 2 + m)) by omega] at hx9
                exact kO _ _ rfl _ _ ((k8.trans k9).trans (Keep.same s10)) (s10 _ _ hx9) (dp_item (SqT.of upd_same) (dp_same s10 ((k9.kt (sq2 _ _ hx5)).d (tupD_A a) (dp_same sq2 hv5))))
            refine ite_d (fun h7 => ?_) (fun h7 => ?_)
            · walk_at "u"
              refine ⟨by show 2 ≤ sizeLine; decide, fun p2 hp2 => ?_⟩
              walk_at "u"
              refine ⟨by show 1 ≤ sizeLine; decide, fun q2 hq2 => ?_⟩
              exact fin 2 (by rw [if_pos (by omega)]) _ (Same.refl _) _ hp2 _ hq2
            · walk_at "u"
              refine ⟨by show 2 ≤ sizeLine; decide, fun p2 hp2 => ?_⟩
              walk_at "u"
              refine ⟨by show 1 ≤ sizeLine; decide, fun q2 hq2 => ?_⟩
              exact fin lo (by rw [if_neg (by omega)]) _ (Same.refl _) _ hp2 _ hq2
          · rw [if_pos (by omega)] at kE
            have := kE (n + (j + 1)) rfl
            rw [show i + (n + (j + 1)) = i + n + 1 + j by omega] at this
            exact Fl.on this k5
end
end Sr
namespace Sr
open PySem PySem.Spec PyProof.Rows L2
open Fh (Bytes)
def encIs (l : List Fh.Item) : PyData := .tuple (l.map encI)
theorem tupD_Is (l : List Fh.Item) : tupD (encIs l) = true := by unfold encIs; rw [tupD]; exact tupDs_map tupD_I l
def encRule (r : Fh.Rule) : PyData := .tuple [.bool r.cut, .bool r.start, encIs r.before, encIs r.behind, .bool r.halt_]
theorem tupD_Rule (r : Fh.Rule) : tupD (encRule r) = true := by
  show (true && (true && (tupD (encIs r.before) && (tupD (encIs r.behind) && (true && true))))) = true
  rw [tupD_Is, tupD_Is]; rfl
section
variable {P : Program} {w : World} {K : PySem.W.Frag} {mg : Str → Option Value} {base : Heap}
def sp_Reading_items_before (T : Txt K mg) : Sp := fun vs H Q E => ∃ (x dx oa dc : Addr) (b : Bytes) (i : Nat) (kvs : List (Key × V)) (cs : Sm.Clss), vs = [.ref x] ∧ RSt T H x dx oa dc b i kvs cs ∧
  (∀ k, Sm.beforeL (keysOf cs) b (b.length + 1) i [] = .error k → Fl T E x H k) ∧
  ∀ l n, Sm.beforeL (keysOf cs) b (b.length + 1) i [] = .ok (l, n) → ∀ v H', Keep x H H' → RAt T H' x dx oa dc n → Dp K H' v (encIs l) → Q v H'
theorem ok_Reading_items_before (T : Txt K mg) : FnOk P w K mg base (L2.CX P w) 6 T.m_Reading_items_before.a T.m_Reading_items_before.fd ["self"] (sp_Reading_items_before T) := by
  refine T.m_Reading_items_before.F.okX sc_Reading_items_before (fun vs H Q E h => ?_) (fun cdv A outer s H vs Q E hr h => ⟨_, (pss_cons (ps_set (i := 1) sc_Reading_items_before.nd rfl (Or.inl rfl) (pe_lst pa_nil))
 (pss_cons (ps_while (passes_of rfl) (pt_cmpR op_ne (pe_meth0 (pv 0) T.cl_Reading T.m_Reading_here.m (ok_Reading_here T) (hr.mono (by decide)) T.m_Reading_here.b .nil pass0) (pe_gi T.c_BAR) (nomark _)) (pss_cons (ps_expr (bmK K PySem.F.plainAttrs_list PySem.F.slot_list_append PySem.F.type_list_append mt_append (pv 1) (pa_cons (pe_meth0 (pv 0) T.cl_Reading T.m_Reading_item.m (ok_Reading_item T) (hr.mono (by decide)) T.m_Reading_item.b .nil (passes_call (takes_of rfl rfl rfl rfl) (fun _ _ _ _ h => h))) pa_nil)))
 (pss_one (ps_expr (pe_meth (pv 0) T.cl_Reading T.m_Reading_take.m (ok_Reading_take T) (hr.mono (by decide)) T.m_Reading_take.b .nil (passes_call (takes_of rfl rfl rfl rfl) (fun _ _ _ _ h => h)) (pa_cons (pe_gi T.c_BLANK) pa_nil))))))
 (pss_cons (ps_expr (pe_meth (pv 0) T.cl_Reading T.m_Reading_take.m (ok_Reading_take T) (hr.mono (by decide)) T.m_Reading_take.b .nil (passes_call (takes_of rfl rfl rfl rfl) (fun _ _ _ _ h => h)) (pa_cons (pe_gi T.c_BAR) pa_nil)))
 (pss_one (ps_ret (pe_callTy (cr_tuple K) rfl T.b_tuple (by decide +kernel) (pa_cons (pv 1) pa_nil))))))), ?_⟩)
  · obtain ⟨_, _, _, _, _, _, _, _, rfl, _⟩ := h; rfl
  · obtain ⟨x, dx, oa, dc, b, i, kvs, cs, rfl, hr0, kE, kO⟩ := h
    walk_at "u"
    refine ⟨by show 0 ≤ sizeLine; decide, fun fl hfl => ?_⟩
    have hflx : fl ≠ x := fun z => by have := hr0.at_; rw [z, this] at hfl; cases hfl
    generalize hR0 : Sm.beforeL (keysOf cs) b (b.length + 1) i [] = R at kE kO
    walk_at "u"
    refine f_while (fun m σ H' => ∃ (n : Nat) (l : List Fh.Item) (us : List V), σ = [some (.ref x), some (.ref fl)] ∧ Keep x H H' ∧ RAt T H' x dx oa dc n ∧ H' fl = some (.lst us) ∧ DpAll K H' us (l.reverse.map encI) ∧
        R = Sm.beforeL (keysOf cs) b m n l ∧ b.length - n < m ∧ l.length ≤ n ∧ (l ≠ [] → l.length ≤ b.length)) (m := b.length + 1)
      ⟨i, [], [], rfl, Keep.new hfl, (upd_ne hflx.symm).trans hr0.at_, upd_same, .nil, hR0.symm, by omega, Nat.zero_le _, fun z => absurd rfl z⟩ ?_
    rintro m σ H' ⟨n, l, us, rfl, hK, hx2, hf2, hD, hR, hm, hln, hlb⟩
    obtain ⟨m, rfl⟩ : ∃ j, m = j + 1 := ⟨m - 1, by omega⟩
    rw [Sm.beforeL] at hR
    have r2 := hr0.on hK hx2
    have hulen : us.length = l.length := by rw [dps_len hD, List.length_map, List.length_reverse]
    walk_at "u"
    refine r_meth T hx2 ?_
    walk_at "u"
    refine ⟨x, dx, oa, dc, b, n, rfl, hx2, r2.oc, fun r hr => ?_⟩
    walk_at "u"
    refine ite_d (fun h1 => ?_) (fun h1 => ?_)
    · rw [if_neg (by omega)] at hR
      refine u_body ?_
      walk_at "u"
      refine ⟨u_lty hf2, ?_⟩
      walk_at "u"
      refine r_meth T hx2 ?_
      walk_at "u"
      refine ⟨x, dx, oa, dc, b, n, kvs, cs, rfl, r2, fun k hk => ?_, fun a k hk v H3 k3 hx3 hv => ?_⟩
      · rw [hk] at hR
        exact Fl.on (kE _ hR) hK
      · rw [hk] at hR
        dsimp only at hR
        have hf3 := k3 _ _ hf2 hflx
        have hle : l.length ≤ b.length := by
          by_cases hl0 : l = []
          · subst hl0; exact Nat.zero_le _
          · exact hlb hl0
        walk_at "u"
        refine u_append hf3 (size_less (by have := hr0.bl; omega)) ?_
        have hx4 : RAt T (upd H3 fl (.lst (us ++ [v]))) x dx oa dc (n + k) := (upd_ne hflx.symm).trans hx3
        have kt4 : Kt H3 (upd H3 fl (.lst (us ++ [v]))) := Kt.upd hf3 rfl
        have hf4 : upd H3 fl (.lst (us ++ [v])) fl = some (.lst (us ++ [v])) := upd_same
        have k4 : Keep x H (upd H3 fl (.lst (us ++ [v]))) := Keep.mut (hK.trans k3) hfl
        have hD4 : DpAll K (upd H3 fl (.lst (us ++ [v]))) (us ++ [v]) ((a :: l).reverse.map encI) := by
          rw [List.reverse_cons, List.map_append]
          exact dps_app (kt4.ds (tupDs_map tupD_I _) (k3.ds hx2 hD)) (dps_one (kt4.d (tupD_I a) hv))
        generalize upd H3 fl (.lst (us ++ [v])) = H4 at hx4 kt4 hf4 k4 hD4
        walk_at "u"
        refine r_meth T hx4 ?_
        walk_at "u"
        refine ⟨x, dx, oa, dc, b, n + k, 32, rfl, hx4, k4.l hr0.at_ hr0.oc, fun h32 H5 k5 hx5 => ?_, fun h32 => ?_⟩
        · rw [if_pos h32] at hR
          have hlt := Sm.hd_lt (b := b) (n := n + k) (by omega)
          walk_at "u"
          exact ⟨m, by omega, n + k + 1, a :: l, _, rfl, k4.trans k5, hx5, k5 _ _ hf4 hflx, k5.ds hx4 hD4, hR, by omega, by rw [List.length_cons]; omega, fun _ => by rw [List.length_cons]; omega⟩
        · rw [if_neg h32] at hR
          exact Fl.on (kE _ hR) k4
    · rw [if_pos (by omega)] at hR
      walk_at "u"
      refine r_meth T hx2 ?_
      walk_at "u"
      refine ⟨x, dx, oa, dc, b, n, 124, rfl, hx2, r2.oc, fun h124 H3 k3 hx3 => ?_, fun h124 => absurd (by omega) h124⟩
      have hf3 := k3 _ _ hf2 hflx
      walk_at "u"
      refine u_tupL (Or.inl (Or.inl hf3)) fun t ht => ?_
      have s4 := same_new (o := .tup us) ht
      exact kO _ _ hR _ _ ((hK.trans k3).trans (Keep.same s4)) (s4 _ _ hx3) (.tup (SqT.of upd_same) (dps_same s4 (k3.ds hx2 hD)))
def sp_Reading_items_behind (T : Txt K mg) : Sp := fun vs H Q E => ∃ (x dx oa dc : Addr) (b : Bytes) (i : Nat) (kvs : List (Key × V)) (cs : Sm.Clss), vs = [.ref x] ∧ RSt T H x dx oa dc b i kvs cs ∧
  (∀ k, Sm.behindL (keysOf cs) b (b.length + 1) i [] = .error k → Fl T E x H k) ∧
  ∀ l n, Sm.behindL (keysOf cs) b (b.length + 1) i [] = .ok (l, n) → ∀ p u H', Keep x H H' → RAt T H' x dx oa dc n → H' p = some (.tup [u, .bl l.2]) → Dp K H' u (encIs l.1) → Q (.ref p) H'
theorem ok_Reading_items_behind (T : Txt K mg) : FnOk P w K mg base (L2.CX P w) 6 T.m_Reading_items_behind.a T.m_Reading_items_behind.fd ["self"] (sp_Reading_items_behind T) := by
  refine T.m_Reading_items_behind.F.okX sc_Reading_items_behind (fun vs H Q E h => ?_) (fun cdv A outer s H vs Q E hr h => ⟨_, (pss_cons (ps_set (i := 1) sc_Reading_items_behind.nd rfl (Or.inl rfl) (pe_lst pa_nil))
 (pss_cons (ps_while (passes_of rfl) (pt_cmpR op_eq (pe_meth0 (pv 0) T.cl_Reading T.m_Reading_here.m (ok_Reading_here T) (hr.mono (by decide)) T.m_Reading_here.b .nil pass0) (pe_gi T.c_BLANK) (nomark _)) (pss_cons (sfldK K (pv 0) (pe_op op_add (fldK K (pv 0) rfl) pe_int) rfl)
 (pss_cons (ps_if (pt_cmpR op_eq (pe_meth0 (pv 0) T.cl_Reading T.m_Reading_here.m (ok_Reading_here T) (hr.mono (by decide)) T.m_Reading_here.b .nil pass0) (pe_gi T.c_ENDING) (nomark _)) (pss_cons (sfldK K (pv 0) (pe_op op_add (fldK K (pv 0) rfl) pe_int) rfl)
 (pss_one (ps_ret (pe_tup (pa_cons (pe_callTy (cr_tuple K) rfl T.b_tuple (by decide +kernel) (pa_cons (pv 1) pa_nil)) (pa_cons pe_bl pa_nil)))))) pss_nil)
 (pss_one (ps_expr (bmK K PySem.F.plainAttrs_list PySem.F.slot_list_append PySem.F.type_list_append mt_append (pv 1) (pa_cons (pe_meth0 (pv 0) T.cl_Reading T.m_Reading_item.m (ok_Reading_item T) (hr.mono (by decide)) T.m_Reading_item.b .nil (passes_call (takes_of rfl rfl rfl rfl) (fun _ _ _ _ h => h))) pa_nil)))))))
 (pss_one (ps_ret (pe_tup (pa_cons (pe_callTy (cr_tuple K) rfl T.b_tuple (by decide +kernel) (pa_cons (pv 1) pa_nil)) (pa_cons pe_bl pa_nil))))))), ?_⟩)
  · obtain ⟨_, _, _, _, _, _, _, _, rfl, _⟩ := h; rfl
  · obtain ⟨x, dx, oa, dc, b, i, kvs, cs, rfl, hr0, kE, kO⟩ := h
    walk_at "u"
    refine ⟨by show 0 ≤ sizeLine; decide, fun fl hfl => ?_⟩
    have hflx : fl ≠ x := fun z => by have := hr0.at_; rw [z, this] at hfl; cases hfl
    generalize hR0 : Sm.behindL (keysOf cs) b (b.length + 1) i [] = R at kE kO
    walk_at "u"
    refine f_while (fun m σ H' => ∃ (n : Nat) (l : List Fh.Item) (us : List V), σ = [some (.ref x), some (.ref fl)] ∧ Keep x H H' ∧ RAt T H' x dx oa dc n ∧ H' fl = some (.lst us) ∧ DpAll K H' us (l.reverse.map encI) ∧
        R = Sm.behindL (keysOf cs) b m n l ∧ b.length - n < m ∧ l.length ≤ n ∧ (l ≠ [] → l.length ≤ b.length)) (m := b.length + 1)
      ⟨i, [], [], rfl, Keep.new hfl, (upd_ne hflx.symm).trans hr0.at_, upd_same, .nil, hR0.symm, by omega, Nat.zero_le _, fun z => absurd rfl z⟩ ?_
    rintro m σ H' ⟨n, l, us, rfl, hK, hx2, hf2, hD, hR, hm, hln, hlb⟩
    obtain ⟨m, rfl⟩ : ∃ j, m = j + 1 := ⟨m - 1, by omega⟩
    rw [Sm.behindL] at hR
    have r2 := hr0.on hK hx2
    have hulen : us.length = l.length := by rw [dps_len hD, List.length_map, List.length_reverse]
    walk_at "u"
    refine r_meth T hx2 ?_
    walk_at "u"
    refine ⟨x, dx, oa, dc, b, n, rfl, hx2, r2.oc, fun r hr => ?_⟩
    walk_at "u"
    refine ite_d (fun h1 => ?_) (fun h1 => ?_)
    · rw [if_pos (by omega)] at hR
      have hlt0 := Sm.hd_lt (b := b) (n := n) (by omega)
      refine u_body ?_
      walk_at "u"
      refine r_at T hx2 ?_
      walk_at "u"
      refine r_set T (j := n + 1) hx2 (by omega) ?_
      have hx3 : RAt T (upd H' x (.ins T.C dx (rF oa (n + 1) dc))) x dx oa dc (n + 1) := upd_same
      have k3 : Keep x H' (upd H' x (.ins T.C dx (rF oa (n + 1) dc))) := Keep.upd
      generalize upd H' x (.ins T.C dx (rF oa (n + 1) dc)) = H3 at hx3 k3
      have r3 := r2.on k3 hx3
      have hf3 := k3 _ _ hf2 hflx
      have hD3 := k3.ds hx2 hD
      walk_at "u"
      refine r_meth T hx3 ?_
      walk_at "u"
      refine ⟨x, dx, oa, dc, b, n + 1, rfl, hx3, r3.oc, fun r4 hr4 => ?_⟩
      walk_at "u"
      refine ite_d (fun h2 => ?_) (fun h2 => ?_)
      · rw [if_pos (by omega)] at hR
        walk_at "u"
        refine r_at T hx3 ?_
        walk_at "u"
        refine r_set T (j := n + 2) hx3 (by omega) ?_
        have hx4 : RAt T (upd H3 x (.ins T.C dx (rF oa (n + 2) dc))) x dx oa dc (n + 2) := upd_same
        have k4 : Keep x H3 (upd H3 x (.ins T.C dx (rF oa (n + 2) dc))) := Keep.upd
        generalize upd H3 x (.ins T.C dx (rF oa (n + 2) dc)) = H4 at hx4 k4
        walk_at "u"
        refine u_tupL (Or.inl (Or.inl (k4 _ _ hf3 hflx))) fun t ht => ?_
        have s5 := same_new (o := .tup us) ht
        walk_at "u"
        refine ⟨by show 2 ≤ sizeLine; decide, fun p hp => ?_⟩
        have s6 := s5.trans (same_new (o := .tup [.ref t, .bl true]) hp)
        have htp : t ≠ p := fun z => by rw [← z, upd_same] at hp; cases hp
        exact kO _ _ hR _ (.ref t) _ (((hK.trans k3).trans k4).trans (Keep.same s6)) (s6 _ _ hx4) upd_same (.tup (SqT.of ((upd_ne htp).trans upd_same)) (dps_same s6 (k4.ds hx3 hD3)))
      · rw [if_neg (by omega)] at hR
        walk_at "u"
        refine ⟨u_lty hf3, ?_⟩
        walk_at "u"
        refine r_meth T hx3 ?_
        walk_at "u"
        refine ⟨x, dx, oa, dc, b, n + 1, kvs, cs, rfl, r3, fun k hk => ?_, fun a k hk v H5 k5 hx5 hv => ?_⟩
        · rw [hk] at hR
          exact Fl.on (kE _ hR) (hK.trans k3)
        · rw [hk] at hR
          dsimp only at hR
          have hf5 := k5 _ _ hf3 hflx
          have hle : l.length ≤ b.length := by
            by_cases hl0 : l = []
            · subst hl0; exact Nat.zero_le _
            · exact hlb hl0
          walk_at "u"
          refine u_append hf5 (size_less (by have := hr0.bl; omega)) ?_
          have hx6 : RAt T (upd H5 fl (.lst (us ++ [v]))) x dx oa dc (n + 1 + k) := (upd_ne hflx.symm).trans hx5
          have kt6 : Kt H5 (upd H5 fl (.lst (us ++ [v]))) := Kt.upd hf5 rfl
          walk_at "u"
          refine ⟨m, by omega, n + 1 + k, a :: l, us ++ [v], rfl, Keep.mut ((hK.trans k3).trans k5) hfl, hx6, upd_same, ?_, hR, by omega, by rw [List.length_cons]; omega, fun _ => by rw [List.length_cons]; omega⟩
          rw [List.reverse_cons, List.map_append]
          exact dps_app (kt6.ds (tupDs_map tupD_I _) (k5.ds hx3 hD3)) (dps_one (kt6.d (tupD_I a) hv))
    · rw [if_neg (by omega)] at hR
      walk_at "u"
      refine u_tupL (Or.inl (Or.inl hf2)) fun t ht => ?_
      have s5 := same_new (o := .tup us) ht
      walk_at "u"
      refine ⟨by show 2 ≤ sizeLine; decide, fun p hp => ?_⟩
      have s6 := s5.trans (same_new (o := .tup [.ref t, .bl false]) hp)
      have htp : t ≠ p := fun z => by rw [← z, upd_same] at hp; cases hp
      exact kO _ _ hR _ (.ref t) _ (hK.trans (Keep.same s6)) (s6 _ _ hx2) upd_same (.tup (SqT.of ((upd_ne htp).trans upd_same)) (dps_same s6 hD))
def sp_Reading_read_rule (T : Txt K mg) : Sp := fun vs H Q E => ∃ (x dx oa dc : Addr) (b : Bytes) (i : Nat) (kvs : List (Key × V)) (cs : Sm.Clss), vs = [.ref x] ∧ RSt T H x dx oa dc b i kvs cs ∧
  (∀ k, Sm.ruleM (keysOf cs) b i = .error k → Fl T E x H k) ∧
  ∀ r n, Sm.ruleM (keysOf cs) b i = .ok (r, n) → ∀ v H', Keep x H H' → RAt T H' x dx oa dc n → Dp K H' v (encRule r) → Q v H'
theorem ok_Reading_read_rule (T : Txt K mg) : FnOk P w K mg base (L2.CX P w) 7 T.m_Reading_read_rule.a T.m_Reading_read_rule.fd ["self"] (sp_Reading_read_rule T) := by
  refine T.m_Reading_read_rule.F.okX sc_Reading_read_rule (fun vs H Q E h => ?_) (fun cdv A outer s H vs Q E hr h => ⟨_, (pss_cons (ps_set (i := 1) sc_Reading_read_rule.nd rfl (Or.inl rfl) (pe_cmpR op_eq (pe_meth0 (pv 0) T.cl_Reading T.m_Reading_here.m (ok_Reading_here T) (hr.mono (by decide)) T.m_Reading_here.b .nil pass0) (pe_gi T.c_PLUS) (nomark _)))
 (pss_cons (ps_expr (pe_meth (pv 0) T.cl_Reading T.m_Reading_take.m (ok_Reading_take T) (hr.mono (by decide)) T.m_Reading_take.b .nil (passes_call (takes_of rfl rfl rfl rfl) (fun _ _ _ _ h => h)) (pa_cons (pe_ifExp (pt_val (pv 1)) (pe_gi T.c_PLUS) (pe_gi T.c_MINUS)) pa_nil)))
 (pss_cons (ps_expr (pe_meth (pv 0) T.cl_Reading T.m_Reading_take.m (ok_Reading_take T) (hr.mono (by decide)) T.m_Reading_take.b .nil (passes_call (takes_of rfl rfl rfl rfl) (fun _ _ _ _ h => h)) (pa_cons (pe_gi T.c_BLANK) pa_nil)))
 (pss_cons (ps_set (i := 2) sc_Reading_read_rule.nd rfl (Or.inl rfl) (pe_cmpR op_eq (pe_meth0 (pv 0) T.cl_Reading T.m_Reading_here.m (ok_Reading_here T) (hr.mono (by decide)) T.m_Reading_here.b .nil pass0) (pe_gi T.c_BEGINNING) (nomark _)))
 (pss_cons (ps_if (pt_val (pv 2)) (pss_cons (ps_expr (pe_meth (pv 0) T.cl_Reading T.m_Reading_take.m (ok_Reading_take T) (hr.mono (by decide)) T.m_Reading_take.b .nil (passes_call (takes_of rfl rfl rfl rfl) (fun _ _ _ _ h => h)) (pa_cons (pe_gi T.c_BEGINNING) pa_nil)))
 (pss_one (ps_expr (pe_meth (pv 0) T.cl_Reading T.m_Reading_take.m (ok_Reading_take T) (hr.mono (by decide)) T.m_Reading_take.b .nil (passes_call (takes_of rfl rfl rfl rfl) (fun _ _ _ _ h => h)) (pa_cons (pe_gi T.c_BLANK) pa_nil))))) pss_nil)
 (pss_cons (ps_set (i := 3) sc_Reading_read_rule.nd rfl (Or.inl rfl) (pe_meth0 (pv 0) T.cl_Reading T.m_Reading_items_before.m (ok_Reading_items_before T) (hr.mono (by decide)) T.m_Reading_items_before.b .nil (passes_call (takes_of rfl rfl rfl rfl) (fun _ _ _ _ h => h))))
 (pss_cons (ps_asg (pe_meth0 (pv 0) T.cl_Reading T.m_Reading_items_behind.m (ok_Reading_items_behind T) (hr.mono (by decide)) T.m_Reading_items_behind.b .nil (passes_call (takes_of rfl rfl rfl rfl) (fun _ _ _ _ h => h))) (gtK K (n := 2) rfl (pgs_cons (pg_name (i := 4) sc_Reading_read_rule.nd rfl (Or.inl rfl)) (pgs_cons (pg_name (i := 5) sc_Reading_read_rule.nd rfl (Or.inl rfl)) pgs_nil))))
 (pss_cons (ps_expr (pe_meth (pv 0) T.cl_Reading T.m_Reading_take.m (ok_Reading_take T) (hr.mono (by decide)) T.m_Reading_take.b .nil (passes_call (takes_of rfl rfl rfl rfl) (fun _ _ _ _ h => h)) (pa_cons (pe_gi T.c_LINE_END_ruletexts) pa_nil)))
 (pss_one (ps_ret (pe_tup (pa_cons (pv 1) (pa_cons (pv 2) (pa_cons (pv 3) (pa_cons (pv 4) (pa_cons (pv 5) pa_nil)))))))))))))))), ?_⟩)
  · obtain ⟨_, _, _, _, _, _, _, _, rfl, _⟩ := h; rfl
  · obtain ⟨x, dx, oa, dc, b, i, kvs, cs, rfl, hr0, kE, kO⟩ := h
    unfold Sm.ruleM at kE kO
    have hx := hr0.at_
    walk_at "u"
    refine r_meth T hx ?_
    walk_at "u"
    refine ⟨x, dx, oa, dc, b, i, rfl, hx, hr0.oc, fun r hr => ?_⟩
    rw [← hr] at kE kO
    walk_at "un"
    -- the sign
    refine u_seq (u_cut (fun σ' H' => σ' = [some (.ref x), some (.bl (decide (r = 43))), none, none, none, none] ∧ ¬ r ≠ (if r = 43 then 43 else 45) ∧ Keep x H H' ∧ RAt T H' x dx oa dc (i + 1)) (fun nx' hn => ?_) ?_)
    · have go : ∀ c : Int, c = (if r = 43 then 43 else 45) → sp_Reading_take T [.ref x, .int c] H (fun _ H1 => nx' [some (.ref x), some (.bl (decide (r = 43))), none, none, none, none] H1) E := by
        intro c hc
        refine ⟨x, dx, oa, dc, b, i, c, rfl, hx, hr0.oc, fun h1 H1 k1 hx1 => ?_, fun h1 => ?_⟩
        · exact hn _ _ ⟨rfl, fun z => z (by rw [← hc]; omega), k1, hx1⟩
        · rw [if_pos (show r ≠ (if r = 43 then 43 else 45) from fun z => h1 (by rw [hc]; omega))] at kE
          exact kE _ rfl
      walk_at "u"
      refine r_meth T hx ?_
      walk_at "u"
      refine ite_d (fun h1 => ?_) (fun h1 => ?_)
      · walk_at "u"
        exact go 43 (by rw [if_pos h1])
      · walk_at "u"
        exact go 45 (by rw [if_neg h1])
    rintro _ H1 ⟨rfl, hc1, k1, hx1⟩
    rw [if_neg hc1] at kE kO
    have r1 := hr0.on k1 hx1
    walk_at "u"
    refine r_meth T hx1 ?_
    walk_at "u"
    refine ⟨x, dx, oa, dc, b, i + 1, 32, rfl, hx1, r1.oc, fun h32 H2 k2 hx2 => ?_, fun h32 => ?_⟩
    · have k2' := k1.trans k2
      have r2 := hr0.on k2' hx2
      rw [if_neg (fun z => z h32)] at kE kO
      walk_at "u"
      refine r_meth T hx2 ?_
      walk_at "u"
      refine ⟨x, dx, oa, dc, b, i + 2, rfl, hx2, r2.oc, fun r4 hr4 => ?_⟩
      rw [← hr4] at kE kO
      walk_at "un"
      -- the beginning
      refine u_seq (u_cut (fun σ' H' => σ' = [some (.ref x), some (.bl (decide (r = 43))), some (.bl (decide (r4 = 94))), none, none, none] ∧ Keep x H H' ∧ ∃ j, RAt T H' x dx oa dc j ∧
        (∀ k, Sm.ruleGo (keysOf cs) b (decide (r = 43)) (decide (r4 = 94)) (Sm.beforeL (keysOf cs) b (b.length + 1) j []) = .error k → Fl T E x H k) ∧
        ∀ r' n, Sm.ruleGo (keysOf cs) b (decide (r = 43)) (decide (r4 = 94)) (Sm.beforeL (keysOf cs) b (b.length + 1) j []) = .ok (r', n) → ∀ v H', Keep x H H' → RAt T H' x dx oa dc n → Dp K H' v (encRule r') → Q v H') (fun nx' hn => ?_) ?_)
      · walk_at "u"
        refine ite_d (fun h1 => ?_) (fun h1 => ?_)
        · rw [if_pos h1] at kE kO
          walk_at "u"
          refine r_meth T hx2 ?_
          walk_at "u"
          refine ⟨x, dx, oa, dc, b, i + 2, 94, rfl, hx2, r2.oc, fun _ H3 k3 hx3 => ?_, fun z => absurd (by omega) z⟩
          have k3' := k2'.trans k3
          walk_at "u"
          refine r_meth T hx3 ?_
          walk_at "u"
          refine ⟨x, dx, oa, dc, b, i + 3, 32, rfl, hx3, k3'.l hx hr0.oc, fun h4 H4 k4 hx4 => ?_, fun h4 => ?_⟩
          · rw [if_neg (fun z => z h4)] at kE kO
            walk_at "u"
            refine hn _ _ ⟨rfl, k3'.trans k4, i + 4, hx4, ?_, ?_⟩
            · rw [decide_eq_true h1]; exact kE
            · rw [decide_eq_true h1]; exact kO
          · rw [if_pos h4] at kE
            exact Fl.on (kE _ rfl) k3'
        · rw [if_neg h1] at kE kO
          walk_at "u"
          refine hn _ _ ⟨rfl, k2', i + 2, hx2, ?_, ?_⟩
          · rw [decide_eq_false h1]; exact kE
          · rw [decide_eq_false h1]; exact kO
      rintro _ H3 ⟨rfl, k3, j, hx3, kE, kO⟩
      have r3 := hr0.on k3 hx3
      walk_at "u"
      refine r_meth T hx3 ?_
      walk_at "u"
      refine ⟨x, dx, oa, dc, b, j, kvs, cs, rfl, r3, fun k hk => ?_, fun l n hk v H4 k4 hx4 hv4 => ?_⟩
      · rw [hk] at kE
        exact Fl.on (kE k rfl) k3
      · rw [hk] at kE kO
        have k4' := k3.trans k4
        have r4 := hr0.on k4' hx4
        walk_at "u"
        refine r_meth T hx4 ?_
        walk_at "u"
        refine ⟨x, dx, oa, dc, b, n, kvs, cs, rfl, r4, fun k hk2 => ?_, fun y m hk2 p u H5 k5 hx5 hp5 hu5 => ?_⟩
        · simp only [Sm.ruleGo] at kE
          rw [hk2] at kE
          exact Fl.on (kE k rfl) k4'
        · simp only [Sm.ruleGo] at kE kO
          rw [hk2] at kE kO
          simp only [Sm.ruleEnd] at kE kO
          have k5' := k4'.trans k5
          have hv5 := (k5.kt hx4).d (tupD_Is l) hv4
          walk_at "u"
          refine u_gt (SqT.of hp5) rfl ?_
          walk_at "u"
          refine r_meth T hx5 ?_
          walk_at "u"
          refine ⟨x, dx, oa, dc, b, m, 10, rfl, hx5, k5'.l hx hr0.oc, fun h10 H6 k6 hx6 => ?_, fun h10 => ?_⟩
          · rw [if_pos h10] at kO
            have hv6 := (k6.kt hx5).d (tupD_Is l) hv5
            have hu6 := (k6.kt hx5).d (tupD_Is y.1) hu5
            walk_at "u"
            refine ⟨by show 5 ≤ sizeLine; decide, fun t ht => ?_⟩
            refine kO _ _ rfl _ _ ((k5'.trans k6).trans (Keep.new ht)) ?_ ?_
            · exact (same_new ht) _ _ hx6
            · exact .tup (SqT.of upd_same) (.cons (.bl _) (.cons (.bl _) (.cons (dp_same (same_new ht) hv6) (.cons (dp_same (same_new ht) hu6) (.cons (.bl _) .nil)))))
          · rw [if_neg h10] at kE
            exact Fl.on (kE _ rfl) k5'
    · rw [if_pos h32] at kE
      exact Fl.on (kE _ rfl) k1
def sp_Reading_whole (T : Txt K mg) : Sp := fun vs H Q E => ∃ (x dx oa dc : Addr) (b : Bytes), vs = [.ref x] ∧ RAt T H x dx oa dc 0 ∧ LI K H oa (bI b) ∧ b.length ≤ 900000 ∧ H dc = some (.dK []) ∧
  (∀ k, Sm.wholeM b = .error k → Fl2 T E x dc H k) ∧
  ∀ R, Sm.wholeM b = .ok R → ∀ p fl kvs us H', Keep2 x dc H H' → H' p = some (.tup [.ref dc, .ref fl]) → H' dc = some (.dK kvs) → CsAt K H' kvs R.classes → H' fl = some (.lst us) → DpAll K H' us (R.rules.map encRule) → Q (.ref p) H'
theorem classes15 (b : Bytes) : ∀ (F n : Nat) (cs : Sm.Clss) (y : Sm.Clss × Nat), (∀ c ∈ cs, c.1 ≤ 15) → cs.length ≤ Sm.leastC cs → Sm.leastC cs ≤ 16 → Sm.classesL b F n cs = .ok y → (∀ c ∈ y.1, c.1 ≤ 15) ∧ y.1.length ≤ 16
  | 0, _, _, _, _, _, _, h => by cases h
  | F + 1, n, cs, y, h1, h2, h3, h => by
    rw [Sm.classesL] at h
    by_cases c1 : Sm.hd b n = 37 ∧ Sm.leastC cs ≤ 15
    · rw [if_pos c1] at h
      cases q : Sm.numM [(Sm.leastC cs, 15)] (b.drop (n + 1)) with
      | error k => rw [q] at h; cases h
      | ok x =>
        have hin := Sm.num_in (v := x.1) (k := x.2) q
        rw [Sm.inSp_one] at hin
        have hin2 := Sm.within_le hin
        rw [q] at h
        dsimp only at h
        cases q2 : Sm.lineEnd b (Sm.rangesL b (b.length + 1) (n + 1 + x.2) []) with
        | error k => rw [q2] at h; cases h
        | ok z =>
          rw [q2] at h
          refine classes15 b F _ ((x.1, z.1) :: cs) y ?_ ?_ ?_ h
          · intro c hc
            rw [List.mem_cons] at hc
            rcases hc with rfl | hc
            · exact hin2.2
            · exact h1 c hc
          · show ((x.1, z.1) :: cs).length ≤ x.1 + 1
            rw [List.length_cons]; omega
          · show x.1 + 1 ≤ 16; omega
    · rw [if_neg c1] at h
      cases h
      refine ⟨fun c hc => h1 c (List.mem_reverse.mp hc), ?_⟩
      rw [List.length_reverse]; omega
theorem ok_Reading_whole (T : Txt K mg) : FnOk P w K mg base (L2.CX P w) 8 T.m_Reading_whole.a T.m_Reading_whole.fd ["self"] (sp_Reading_whole T) := by
  refine T.m_Reading_whole.F.okX sc_Reading_whole (fun vs H Q E h => ?_) (fun cdv A outer s H vs Q E hr h => ⟨_, (pss_cons (ps_expr (pe_meth0 (pv 0) T.cl_Reading T.m_Reading_read_classes.m (ok_Reading_read_classes T) (hr.mono (by decide)) T.m_Reading_read_classes.b .nil (passes_call (takes_of rfl rfl rfl rfl) (fun _ _ _ _ h => h))))
 (pss_cons (ps_set (i := 1) sc_Reading_whole.nd rfl (Or.inl rfl) (pe_lst pa_nil))
 (pss_cons (ps_while (passes_of rfl) (pt_cmpR op_lt (fldK K (pv 0) rfl) (pe_callB (cr_len K) rfl T.b_len PySem.boot_len (pa_cons (fldK K (pv 0) rfl) pa_nil)) (nomark _)) (pss_one (ps_expr (bmK K PySem.F.plainAttrs_list PySem.F.slot_list_append PySem.F.type_list_append mt_append (pv 1) (pa_cons (pe_meth0 (pv 0) T.cl_Reading T.m_Reading_read_rule.m (ok_Reading_read_rule T) (hr.mono (by decide)) T.m_Reading_read_rule.b .nil (passes_call (takes_of rfl rfl rfl rfl) (fun _ _ _ _ h => h))) pa_nil)))))
 (pss_one (ps_ret (pe_tup (pa_cons (fldK K (pv 0) rfl) (pa_cons (pv 1) pa_nil)))))))), ?_⟩)
  · obtain ⟨_, _, _, _, _, rfl, _⟩ := h; rfl
  · obtain ⟨x, dx, oa, dc, b, rfl, hx, hL, hbl, hdc, kE, kO⟩ := h
    have hdx : dc ≠ x := fun z => by rw [z, hx] at hdc; cases hdc
    unfold Sm.wholeM at kE kO
    walk_at "u"
    refine r_meth T hx ?_
    walk_at "u"
    refine ⟨x, dx, oa, dc, b, 0, rfl, hx, hL, hbl, hdc, fun k hk => ?_, fun cs n hk H1 kvs k1 hx1 hd1 hC1 => ?_⟩
    · rw [hk] at kE
      exact kE k rfl
    · rw [hk] at kE kO
      dsimp only at kE kO
      have h15 := classes15 b _ _ [] _ (fun c hc => nomatch hc) (Nat.le_refl _) (Nat.zero_le _) hk
      have r1 : RSt T H1 x dx oa dc b n kvs cs := ⟨hx1, k1.l hx hdc hL, hbl, hd1, hC1, h15.1, h15.2⟩
      walk_at "u"
      refine ⟨by show 0 ≤ sizeLine; decide, fun fl hfl => ?_⟩
      have hflx : fl ≠ x := fun z => by rw [z, hx1] at hfl; cases hfl
      generalize hR0 : Sm.rulesL (cs.map fun c => c.1) b (b.length + 1) n [] = R at kE kO
      walk_at "u"
      refine f_while (fun m σ H' => ∃ (j : Nat) (l : List Fh.Rule) (us : List V), σ = [some (.ref x), some (.ref fl)] ∧ Keep x H1 H' ∧ RAt T H' x dx oa dc j ∧ H' fl = some (.lst us) ∧ DpAll K H' us (l.reverse.map encRule) ∧
        R = Sm.rulesL (keysOf cs) b m j l ∧ b.length - j < m ∧ l.length ≤ j ∧ (l ≠ [] → l.length ≤ b.length)) (m := b.length + 1)
        ⟨n, [], [], rfl, Keep.new hfl, (upd_ne hflx.symm).trans hx1, upd_same, .nil, hR0.symm, by omega, Nat.zero_le _, fun z => absurd rfl z⟩ ?_
      rintro m σ H2 ⟨j, l, us, rfl, k2, hx2, hf2, hD2, hR, hm, hlj, hlb⟩
      obtain ⟨m, rfl⟩ : ∃ j, m = j + 1 := ⟨m - 1, by omega⟩
      rw [Sm.rulesL] at hR
      have r2 := r1.on k2 hx2
      have hulen : us.length = l.length := by rw [dps_len hD2, List.length_map, List.length_reverse]
      walk_at "u"
      refine r_at T hx2 ?_
      walk_at "u"
      refine r_octets T hx2 ?_
      walk_at "u"
      refine u_lenL r2.oc ?_
      walk_at "u"
      rw [map_int_len, bI_len]
      refine ite_d (fun h1 => ?_) (fun h1 => ?_)
      · rw [if_pos (by omega)] at hR
        refine u_body ?_
        walk_at "u"
        refine ⟨u_lty hf2, ?_⟩
        walk_at "u"
        refine r_meth T hx2 ?_
        walk_at "u"
        refine ⟨x, dx, oa, dc, b, j, kvs, cs, rfl, r2, fun k hk2 => ?_, fun r' n' hk2 v H3 k3 hx3 hv3 => ?_⟩
        · rw [hk2] at hR
          rw [hR] at kE
          exact Fl2.on (kE k rfl) (k1.trans (Keep2.of k2))
        · have hgt := Sm.ruleM_gt hk2
          rw [hk2] at hR
          dsimp only at hR hgt
          have hf3 := k3 _ _ hf2 hflx
          have hle : l.length ≤ b.length := by
            by_cases hl0 : l = []
            · subst hl0; exact Nat.zero_le _
            · exact hlb hl0
          walk_at "u"
          refine u_append hf3 (size_less (by omega)) ?_
          have hx4 : RAt T (upd H3 fl (.lst (us ++ [v]))) x dx oa dc n' := (upd_ne hflx.symm).trans hx3
          have kt4 : Kt H3 (upd H3 fl (.lst (us ++ [v]))) := Kt.upd hf3 rfl
          walk_at "u"
          refine ⟨m, by omega, n', r' :: l, us ++ [v], rfl, Keep.mut (k2.trans k3) hfl, hx4, upd_same, ?_, hR, by omega, by rw [List.length_cons]; omega, fun _ => by rw [List.length_cons]; omega⟩
          rw [List.reverse_cons, List.map_append]
          exact dps_app (kt4.ds (tupDs_map tupD_Rule _) (k3.ds hx2 hD2)) (dps_one (kt4.d (tupD_Rule r') hv3))
      · rw [if_neg (by omega)] at hR
        rw [hR] at kO
        walk_at "u"
        refine r_classes T hx2 ?_
        walk_at "u"
        refine ⟨by show 2 ≤ sizeLine; decide, fun p hp => ?_⟩
        have s3 := same_new (o := .tup [.ref dc, .ref fl]) hp
        exact kO _ rfl p fl kvs us _ ((k1.trans (Keep2.of k2)).trans (Keep2.of (Keep.same s3))) upd_same (s3 _ _ (r2.hd)) (r2.cl.kt (Kt.same s3)) (s3 _ _ hf2) (dps_same s3 hD2)
end
end Sr
namespace Sr
open PySem PySem.Spec PyProof.Rows L2
open Fh (Bytes)
theorem dp_tup {K : PySem.W.Frag} {H : Hp} {v : V} {ds : List PyData} (h : Dp K H v (.tuple ds)) : ∃ p us, v = .ref p ∧ SqT K H p us ∧ DpAll K H us ds := by
  cases h with
  | tup hs hd => exact ⟨_, _, rfl, hs, hd⟩
theorem dps_c {K : PySem.W.Frag} {H : Hp} {vs : List V} {d : PyData} {ds : List PyData} (h : DpAll K H vs (d :: ds)) : ∃ v us, vs = v :: us ∧ Dp K H v d ∧ DpAll K H us ds := by
  cases h with
  | cons h1 h2 => exact ⟨_, _, rfl, h1, h2⟩
theorem dps_n {K : PySem.W.Frag} {H : Hp} {vs : List V} (h : DpAll K H vs []) : vs = [] := by cases h; rfl
theorem dp_i {K : PySem.W.Frag} {H : Hp} {v : V} {n : Int} (h : Dp K H v (.int n)) : v = .int n := by cases h; rfl
theorem dp_b {K : PySem.W.Frag} {H : Hp} {v : V} {k : Bool} (h : Dp K H v (.bool k)) : v = .bl k := by cases h; rfl
theorem dp_itm {K : PySem.W.Frag} {H : Hp} {v : V} {i : Fh.Item} (h : Dp K H v (encI i)) : ∃ p va, v = .ref p ∧ SqT K H p [va, .int i.least, .int i.most] ∧ Dp K H va (encA i.atom) := by
  obtain ⟨p, us, rfl, hs, hd⟩ := dp_tup h
  obtain ⟨v1, us, rfl, h1, hd⟩ := dps_c hd
  obtain ⟨v2, us, rfl, h2, hd⟩ := dps_c hd
  obtain ⟨v3, us, rfl, h3, hd⟩ := dps_c hd
  obtain rfl := dps_n hd
  obtain rfl := dp_i h2
  obtain rfl := dp_i h3
  exact ⟨p, v1, rfl, hs, h1⟩
theorem dp_rule {K : PySem.W.Frag} {H : Hp} {v : V} {r : Fh.Rule} (h : Dp K H v (encRule r)) : ∃ p vb vh, v = .ref p ∧ SqT K H p [.bl r.cut, .bl r.start, vb, vh, .bl r.halt_] ∧ Dp K H vb (encIs r.before) ∧ Dp K H vh (encIs r.behind) := by
  obtain ⟨p, us, rfl, hs, hd⟩ := dp_tup h
  obtain ⟨v1, us, rfl, h1, hd⟩ := dps_c hd
  obtain ⟨v2, us, rfl, h2, hd⟩ := dps_c hd
  obtain ⟨v3, us, rfl, h3, hd⟩ := dps_c hd
  obtain ⟨v4, us, rfl, h4, hd⟩ := dps_c hd
  obtain ⟨v5, us, rfl, h5, hd⟩ := dps_c hd
  obtain rfl := dps_n hd
  obtain rfl := dp_b h1
  obtain rfl := dp_b h2
  obtain rfl := dp_b h5
  exact ⟨p, v3, v4, rfl, hs, h3, h4⟩
/-- an atom's tuple: its kind, what stands there -/
theorem dp_atom {K : PySem.W.Frag} {H : Hp} {v : V} {a : Fh.Atom} (h : Dp K H v (encA a)) : ∃ p u, v = .ref p ∧
    ((a = .any ∧ SqT K H p [.int 0, u]) ∨ (∃ k : Nat, a = .cls k ∧ u = .int k ∧ SqT K H p [.int 1, u]) ∨ ∃ t, a = .lit t ∧ SqT K H p [.int 2, u] ∧ Dp K H u (encT t)) := by
  cases a with
  | any =>
    obtain ⟨p, us, rfl, hs, hd⟩ := dp_tup h
    obtain ⟨v1, us, rfl, h1, hd⟩ := dps_c hd
    obtain ⟨v2, us, rfl, h2, hd⟩ := dps_c hd
    obtain rfl := dps_n hd
    obtain rfl := dp_i h1
    exact ⟨p, v2, rfl, Or.inl ⟨rfl, hs⟩⟩
  | cls k =>
    obtain ⟨p, us, rfl, hs, hd⟩ := dp_tup h
    obtain ⟨v1, us, rfl, h1, hd⟩ := dps_c hd
    obtain ⟨v2, us, rfl, h2, hd⟩ := dps_c hd
    obtain rfl := dps_n hd
    obtain rfl := dp_i h1
    obtain rfl := dp_i h2
    exact ⟨p, _, rfl, Or.inr (Or.inl ⟨k, rfl, rfl, hs⟩)⟩
  | lit t =>
    obtain ⟨p, us, rfl, hs, hd⟩ := dp_tup h
    obtain ⟨v1, us, rfl, h1, hd⟩ := dps_c hd
    obtain ⟨v2, us, rfl, h2, hd⟩ := dps_c hd
    obtain rfl := dps_n hd
    obtain rfl := dp_i h1
    exact ⟨p, v2, rfl, Or.inr (Or.inr ⟨t, rfl, hs, h2⟩)⟩
/-- rules that were read, at v -/
def RuAt (K : PySem.W.Frag) (H : Hp) (v : V) (R : Fh.Rules) : Prop := ∃ (p dc : Addr) (kvs : List (Key × V)) (fl : Addr) (us : List V), v = .ref p ∧ SqT K H p [.ref dc, .ref fl] ∧ H dc = some (.dK kvs) ∧ CsAt K H kvs R.classes ∧ SqL K H fl us ∧ DpAll K H us (R.rules.map encRule) ∧ (R.classes.map fun c => c.1).Nodup
section
variable {P : Program} {w : World} {K : PySem.W.Frag} {mg : Str → Option Value} {base : Heap}
def sp_read_rules (K : PySem.W.Frag) : Sp := fun vs H Q _ => ∃ (oa : Addr) (b : Bytes), vs = [.ref oa] ∧ LI K H oa (bI b) ∧ b.length ≤ 900000 ∧
  (∀ k, Sm.wholeM b = .error k → ∀ p H', Same H H' → SqT K H' p [.non, .int (k : Int)] → Q (.ref p) H') ∧
  ∀ R, Sm.wholeM b = .ok R → ∀ p v H', Same H H' → SqT K H' p [v, .int (-1)] → RuAt K H' v R → Q (.ref p) H'
theorem ok_read_rules (T : Txt K mg) : FnOk P w K mg base CX0 9 T.f_read_rules.a T.f_read_rules.fd ["octets"] (sp_read_rules K) := by
  refine T.f_read_rules.F.ok sc_read_rules (fun vs H Q E h => ?_) (fun cdv A outer s H vs Q E hr h => ⟨_, (pss_one (ps_try_as (i := 1) (tb := (fun W => tRet (tTup (tCons (tMethS T.C "whole" (sp_Reading_whole T) (WE W) (tMake T.C (sp_Reading___init__ T) [] E0 (tCons (tVar 0) tNil)) tNil) (tCons (tUn (rU fun i => .int (-i)) (tC (.int 1))) tNil))))) (ts := (fun a cls d => tRet (tTup (tCons (tC .non) (tCons (tXf a cls d T.CF "place" (tVar 1)) tNil))))) (Wout := fun _ _ _ _ => False) rfl rfl sc_read_rules.nd rfl rfl ⟨rfl, by decide, Or.inl T.g_Fault⟩ takes0
 (fun W pn xe tk _ => (by exact (pss_one (ps_ret (pe_tup (pa_cons (pe_meth0S (pe_make T.mk_Reading (ok_Reading___init__ T) (hr.mono (by decide)) rfl T.g_Reading T.m_Reading___init__.b .nil pass0 (pa_cons (pv 0) pa_nil)) T.cl_Reading T.m_Reading_whole.m (ok_Reading_whole T) (hr.mono (by decide)) T.m_Reading_whole.b (fun σ => passAt tk σ)) (pa_cons (pe_un un_neg pe_int) pa_nil)))))))
 (fun a oe cls d pn hz hf => (by exact (pss_one (ps_ret (pe_tup (pa_cons pe_non (pa_cons (pe_xf T.xf T.xp hz hf (pv 1)) pa_nil))))))))), ?_⟩)
  · obtain ⟨_, _, rfl, _⟩ := h; rfl
  · obtain ⟨oa, b, rfl, hL, hbl, kE, kO⟩ := h
    dsimp only
    walk_at "u"
    intro x dx hx hdx hne
    have hne2 : x ≠ dx := fun z => hne z.symm
    have s1 : Same H (upd (upd H dx (.own x)) x (.ins T.C dx [])) := (same_new hdx).trans (same_new ((upd_ne hne2).trans hx))
    refine ⟨x, dx, oa, rfl, upd_same, fun dc H2 k2 hdc hdcx hx2 hd2 => ⟨rfl, ?_⟩⟩
    have hx1 : upd (upd H dx (.own x)) x (.ins T.C dx []) x = some (.ins T.C dx []) := upd_same
    generalize upd (upd H dx (.own x)) x (.ins T.C dx []) = H1 at s1 k2 hdc hx1
    have hdc0 : H dc = none := by
      cases e : H dc with
      | none => rfl
      | some o => have := s1 _ _ e; rw [hdc] at this; cases this
    have k3 : Same H H2 := fun p o hp => k2 p o (s1 p o hp) (ne_of_none hp hx)
    have k4 : ∀ {H'}, Keep2 x dc H2 H' → Same H H' := fun k p o hp => k p o (k3 p o hp) (ne_of_none hp hx) (ne_of_none hp hdc0)
    refine ⟨x, dx, rF oa 0 dc, rfl, hx2, rF_no (by decide +kernel) (by decide +kernel) (by decide +kernel), ?_⟩
    walk_at "u"
    refine ⟨x, dx, oa, dc, b, rfl, hx2, same_l k3 hL, hbl, hd2, fun k hk d H' kk hd => ?_, fun R hk p fl kvs us H' kk hp hdc' hC hfl hD => ?_⟩
    · refine ⟨true, T.exm, fun _ a ha => ?_, fun h => nomatch h⟩
      walk_at "u"
      refine ⟨rfl, rfl, d, _, _, rfl, hd, lk_here, ?_⟩
      walk_at "u"
      refine ⟨by show 2 ≤ sizeLine; decide, fun p hp => ?_⟩
      exact kE k hk p _ (same_then (k4 kk) hp) (SqT.of upd_same)
    · walk_at "u"
      refine ⟨by show 2 ≤ sizeLine; decide, fun q hq => ?_⟩
      have s5 := same_new (o := .tup [.ref p, .int (-1)]) hq
      exact kO R hk q (.ref p) _ (same_then (k4 kk) hq) (SqT.of upd_same) ⟨p, dc, kvs, fl, us, rfl, SqT.of (s5 _ _ hp), s5 _ _ hdc', hC.kt (Kt.same s5), Or.inl (Or.inl (s5 _ _ hfl)), dps_same s5 hD, Sm.wholeND hk⟩
def sp_are_items_beyond (K : PySem.W.Frag) : Sp := fun vs H Q _ => ∃ (a : Addr) (us : List V) (l : List Fh.Item), vs = [.ref a] ∧ SqT K H a us ∧ DpAll K H us (l.map encI) ∧ ∀ r, r = Sm.beyondI l → Q (.bl r) H
theorem ok_are_items_beyond (T : Txt K mg) : FnOk P w K mg base CX0 1 T.f_are_items_beyond.a T.f_are_items_beyond.fd ["items"] (sp_are_items_beyond K) := by
  refine T.f_are_items_beyond.F.ok sc_are_items_beyond (fun vs H Q E h => ?_) (fun cdv A outer s H vs Q E hr h => ⟨_, (pss_cons (ps_if (pt_cmpR op_gt (pe_callB (cr_len K) rfl T.b_len PySem.boot_len (pa_cons (pv 0) pa_nil)) pe_int (nomark _)) (pss_one (ps_ret pe_bl)) pss_nil)
 (pss_cons (ps_for PassesOwn.never rfl (piTK K (pv 0)) (gtK K (n := 3) rfl (pgs_cons (pg_name (i := 1) sc_are_items_beyond.nd rfl (Or.inl rfl)) (pgs_cons (pg_name (i := 2) sc_are_items_beyond.nd rfl (Or.inl rfl)) (pgs_cons (pg_name (i := 3) sc_are_items_beyond.nd rfl (Or.inl rfl)) pgs_nil)))) (pss_one (ps_if (PW.pt (pw_and (pt_cmpR op_eq (pe_ix (ixTK K) (pv 1) pe_int (fun _ _ => rfl)) (pe_gi T.c_CERTAIN) (nomark _)) (pw_and1 (pt_cmpR op_gt (pe_callB (cr_len K) rfl T.b_len PySem.boot_len (pa_cons (pe_ix (ixTK K) (pv 1) pe_int (fun _ _ => rfl)) pa_nil)) pe_int (nomark _))))) (pss_one (ps_ret pe_bl)) pss_nil)))
 (pss_one (ps_ret pe_bl)))), ?_⟩)
  · obtain ⟨_, _, _, rfl, _⟩ := h; rfl
  · obtain ⟨a, us, l, rfl, hT, hD, k⟩ := h
    have hlen : us.length = l.length := by rw [dps_len hD, List.length_map]
    unfold Sm.beyondI at k
    walk_at "u"
    refine u_lenT hT ?_
    walk_at "u"
    refine ite_d (fun h1 => ?_) (fun h1 => ?_)
    · walk_at "u"
      exact k _ (by rw [decide_eq_true (by omega)]; rfl)
    · rw [decide_eq_false (by omega)] at k
      walk_at "u"
      refine f_tup (K := K) (a := a) (xs := us) (fun i σ H' => ∃ v1 v2 v3, σ = [some (.ref a), v1, v2, v3] ∧ H' = H ∧ (l.any fun i => Sm.longA i.atom) = ((l.drop i).any fun i => Sm.longA i.atom)) hT ⟨none, none, none, rfl, rfl, rfl⟩ (fun i σ H' _ ⟨_, _, _, _, e, _⟩ => by rw [e]; exact hT) ?_ ?_
      · rintro i x σ H' hx ⟨v1, v2, v3, rfl, rfl, hb⟩
        have hi : i < l.length := by rw [← hlen]; exact (List.getElem?_eq_some_iff.mp hx).1
        obtain ⟨v, hv, hd⟩ := dps_get hD (i := i) (d := encI l[i]) (by rw [List.getElem?_map, List.getElem?_eq_getElem hi]; rfl)
        rw [hx] at hv
        cases hv
        rw [List.drop_eq_getElem_cons hi, List.any_cons] at hb
        generalize l[i] = it at hd hb
        obtain ⟨p, va, rfl, hp, ha⟩ := dp_itm hd
        obtain ⟨q, u, rfl, hq⟩ := dp_atom ha
        refine u_gt hp rfl ?_
        walk_at "u"
        have go : Sm.longA it.atom = false → (∃ v1 v2 v3, [some (V.ref a), some (V.ref q), some (.int it.least), some (.int it.most)] = [some (V.ref a), v1, v2, v3] ∧ H' = H' ∧ (l.any fun i => Sm.longA i.atom) = ((l.drop (i + 1)).any fun i => Sm.longA i.atom)) := fun z => ⟨_, _, _, rfl, rfl, by rw [hb, z, Bool.false_or]⟩
        rcases hq with ⟨e, hq⟩ | ⟨n, e, rfl, hq⟩ | ⟨t, e, hq, ht⟩
        · refine u_ixT hq rfl ?_
          walk_at "u"
          exact go (by rw [e]; rfl)
        · refine u_ixT hq rfl ?_
          walk_at "u"
          exact go (by rw [e]; rfl)
        · obtain ⟨tp, ts, rfl, hts, htd⟩ := dp_tup ht
          have htl : ts.length = t.length := by rw [dps_len htd, List.length_map]; exact List.length_map ..
          refine u_ixT hq rfl ?_
          walk_at "u"
          refine ite_d (fun _ => ?_) (fun h => absurd rfl h)
          walk_at "u"
          refine u_ixT hq rfl ?_
          walk_at "u"
          refine u_lenT hts ?_
          walk_at "u"
          have e2 : Sm.longA it.atom = decide (32 < t.length) := by rw [e]; rfl
          refine ite_d (fun h2 => ?_) (fun h2 => ?_)
          · walk_at "u"
            exact k _ (by rw [hb, e2, decide_eq_true (by omega)]; rfl)
          · walk_at "u"
            exact go (by rw [e2, decide_eq_false (by omega)])
      · rintro σ H' ⟨v1, v2, v3, rfl, rfl, hb⟩
        walk_at "u"
        exact k _ (by rw [hb, hlen, List.drop_length]; rfl)
def sp_is_beyond (K : PySem.W.Frag) : Sp := fun vs H Q _ => ∃ (v : V) (R : Fh.Rules), vs = [v] ∧ RuAt K H v R ∧ ∀ r, r = Sm.beyondM R → ∀ H', Same H H' → Q (.bl r) H'
theorem ok_is_beyond (T : Txt K mg) : FnOk P w K mg base CX0 2 T.f_is_beyond.a T.f_is_beyond.fd ["ruling"] (sp_is_beyond K) := by
  refine T.f_is_beyond.F.ok sc_is_beyond (fun vs H Q E h => ?_) (fun cdv A outer s H vs Q E hr h => ⟨_, (pss_cons (ps_asg (pv 0) (gtK K (n := 2) rfl (pgs_cons (pg_name (i := 1) sc_is_beyond.nd rfl (Or.inl rfl)) (pgs_cons (pg_name (i := 2) sc_is_beyond.nd rfl (Or.inl rfl)) pgs_nil))))
 (pss_cons (ps_if (pt_cmpR op_gt (pe_callB (cr_len K) rfl T.b_len PySem.boot_len (pa_cons (pv 2) pa_nil)) pe_int (nomark _)) (pss_one (ps_ret pe_bl)) pss_nil)
 (pss_cons (ps_for PassesOwn.never rfl (piLK K (pe_callTy (call_list_dK rfl) rfl T.b_list (by decide +kernel) (pa_cons (pv 1) pa_nil))) (pg_name (i := 3) sc_is_beyond.nd rfl (Or.inl rfl)) (pss_one (ps_if (pt_cmpR op_gt (pe_callB (cr_len K) rfl T.b_len PySem.boot_len (pa_cons (pe_dget (hu_of hr) (pv 1) (pv 3) (fun _ _ => rfl)) pa_nil)) pe_int (nomark _)) (pss_one (ps_ret pe_bl)) pss_nil)))
 (pss_cons (ps_for PassesOwn.never rfl (piLK K (pv 2)) (gtK K (n := 5) rfl (pgs_cons (pg_name (i := 4) sc_is_beyond.nd rfl (Or.inl rfl)) (pgs_cons (pg_name (i := 5) sc_is_beyond.nd rfl (Or.inl rfl)) (pgs_cons (pg_name (i := 6) sc_is_beyond.nd rfl (Or.inl rfl)) (pgs_cons (pg_name (i := 7) sc_is_beyond.nd rfl (Or.inl rfl)) (pgs_cons (pg_name (i := 8) sc_is_beyond.nd rfl (Or.inl rfl)) pgs_nil)))))) (pss_one (ps_if (PW.pt (pw_or (pt_val (pe_call (ok_are_items_beyond T) (hr.mono (by decide)) rfl T.f_are_items_beyond.g T.f_are_items_beyond.F.kp T.f_are_items_beyond.b .nil pass0 (pa_cons (pv 6) pa_nil))) (pw_or1 (pt_val (pe_call (ok_are_items_beyond T) (hr.mono (by decide)) rfl T.f_are_items_beyond.g T.f_are_items_beyond.F.kp T.f_are_items_beyond.b .nil pass0 (pa_cons (pv 7) pa_nil)))))) (pss_one (ps_ret pe_bl)) pss_nil)))
 (pss_one (ps_ret pe_bl)))))), ?_⟩)
  · obtain ⟨_, _, rfl, _⟩ := h; rfl
  · obtain ⟨_, R, rfl, ⟨p, dc, kvs, fl, us, rfl, hp, hdc, hC, hfl, hD, hnd⟩, k⟩ := h
    have hlen : us.length = R.rules.length := by rw [dps_len hD, List.length_map]
    unfold Sm.beyondM at k
    walk_at "u"
    refine u_gt hp rfl ?_
    walk_at "u"
    refine u_lenL hfl ?_
    walk_at "u"
    refine ite_d (fun h1 => ?_) (fun h1 => ?_)
    · walk_at "u"
      exact k _ (by rw [decide_eq_true (by omega)]; rfl) _ (Same.refl _)
    · rw [decide_eq_false (by omega)] at k
      walk_at "u"
      refine u_listD hdc fun q hq => ?_
      rw [hC.keys]
      have hqL : SqL K (upd H q (.lst (R.classes.map fun c => V.int (c.1 : Nat)))) q (R.classes.map fun c => V.int (c.1 : Nat)) := Or.inl (Or.inl upd_same)
      have s1 := same_new (o := .lst (R.classes.map fun c => V.int (c.1 : Nat))) hq
      generalize upd H q (.lst (R.classes.map fun c => V.int (c.1 : Nat))) = H1 at hqL s1
      walk_at "u"
      refine f_list (K := K) (a := q) (xs := R.classes.map fun c => V.int (c.1 : Nat)) (fun i σ H' => ∃ v1, σ = [some (.ref p), some (.ref dc), some (.ref fl), v1, none, none, none, none, none] ∧ H' = H1 ∧ (R.classes.any fun x => decide (256 < x.2.length)) = ((R.classes.drop i).any fun x => decide (256 < x.2.length))) hqL ⟨none, rfl, rfl, rfl⟩ (fun i σ H' _ ⟨_, _, e, _⟩ => by rw [e]; exact hqL) ?_ ?_
      · rintro i x σ H' hx ⟨v1, rfl, rfl, hb⟩
        have hi : i < R.classes.length := by have := (List.getElem?_eq_some_iff.mp hx).1; rw [List.length_map] at this; exact this
        rw [List.getElem?_map, List.getElem?_eq_getElem hi] at hx
        cases hx
        have hm : R.classes[i] ∈ R.classes := List.getElem_mem hi
        rw [List.drop_eq_getElem_cons hi, List.any_cons] at hb
        generalize R.classes[i] = c at hb hm
        obtain ⟨v, hv, hd⟩ := hC.get (Sm.lookup_nd hnd (show (c.1, c.2) ∈ R.classes from hm))
        obtain ⟨tp, ts, rfl, hts, htd⟩ := dp_tup hd
        have htl : ts.length = c.2.length := by rw [dps_len htd, List.length_map]
        walk_at "u"
        refine u_getI (s1 _ _ hdc) hv ?_
        walk_at "u"
        refine u_lenT (same_t s1 hts) ?_
        walk_at "u"
        refine ite_d (fun h2 => ?_) (fun h2 => ?_)
        · walk_at "u"
          exact k _ (by rw [hb, decide_eq_true (by omega)]; rfl) _ s1
        · walk_at "u"
          exact ⟨_, rfl, rfl, by rw [hb, decide_eq_false (by omega)]; rfl⟩
      · rintro σ H1 ⟨v1, rfl, rfl, hb⟩
        rw [List.length_map, List.drop_length] at hb
        rw [hb] at k
        have hf1 := same_l s1 hfl
        have hD1 := dps_same s1 hD
        walk_at "u"
        refine f_list (K := K) (a := fl) (xs := us) (fun i σ H' => ∃ v1 v2 v3 v4 v5 v6, σ = [some (.ref p), some (.ref dc), some (.ref fl), v1, v2, v3, v4, v5, v6] ∧ Same H1 H' ∧ (R.rules.any fun r => Sm.beyondI r.before || Sm.beyondI r.behind) = ((R.rules.drop i).any fun r => Sm.beyondI r.before || Sm.beyondI r.behind)) hf1 ⟨_, _, _, _, _, _, rfl, Same.refl _, rfl⟩ (fun i σ H' _ ⟨_, _, _, _, _, _, _, e, _⟩ => same_l e hf1) ?_ ?_
        · rintro i x σ H' hx ⟨v1, v2, v3, v4, v5, v6, rfl, s2, hb⟩
          have hi : i < R.rules.length := by rw [← hlen]; exact (List.getElem?_eq_some_iff.mp hx).1
          obtain ⟨v, hv, hd⟩ := dps_get hD1 (i := i) (d := encRule R.rules[i]) (by rw [List.getElem?_map, List.getElem?_eq_getElem hi]; rfl)
          rw [hx] at hv
          cases hv
          rw [List.drop_eq_getElem_cons hi, List.any_cons] at hb
          generalize R.rules[i] = r at hd hb
          obtain ⟨rp, vb, vh, rfl, hrp, hvb, hvh⟩ := dp_rule hd
          obtain ⟨ba, bs, rfl, hbs, hbd⟩ := dp_tup hvb
          obtain ⟨ha, hs, rfl, hhs, hhd⟩ := dp_tup hvh
          refine u_gt (same_t s2 hrp) rfl ?_
          walk_at "u"
          refine ⟨ba, bs, r.before, rfl, same_t s2 hbs, dps_same s2 hbd, fun r1 hr1 => ?_⟩
          walk_at "u"
          refine ite_b (fun h2 => ?_) (fun h2 => ?_)
          · walk_at "u"
            exact k _ (by rw [hb, ← hr1, h2]; rfl) _ (s1.trans s2)
          · walk_at "u"
            refine ⟨ha, hs, r.behind, rfl, same_t s2 hhs, dps_same s2 hhd, fun r2 hr2 => ?_⟩
            walk_at "u"
            refine ite_b (fun h3 => ?_) (fun h3 => ?_)
            · walk_at "u"
              exact k _ (by rw [hb, ← hr1, ← hr2, h2, h3]; rfl) _ (s1.trans s2)
            · walk_at "u"
              exact ⟨_, _, _, _, _, _, rfl, s2, by rw [hb, ← hr1, ← hr2, h2, h3]; rfl⟩
        · rintro σ H' ⟨v1, v2, v3, v4, v5, v6, rfl, s2, hb⟩
          rw [hlen, List.drop_length] at hb
          walk_at "u"
          exact k _ (by rw [hb]; rfl) _ (s1.trans s2)
end
end Sr
namespace Sr
open PySem PySem.Spec PyProof.Rows L2
open Fh (Bytes)
theorem natI_at {t : List Nat} {i : Nat} {c : Nat} (h : t[i]? = some c) : (natI t)[i]? = some (c : Int) := by
  unfold natI; rw [List.getElem?_map, h]; rfl
theorem natI_inj {a b : List Nat} : natI a = natI b ↔ a = b := by
  constructor
  · intro h
    have := congrArg (List.map Int.toNat) h
    unfold natI at this
    rw [List.map_map, List.map_map] at this
    have e : ∀ l : List Nat, l.map (Int.toNat ∘ fun (n : Nat) => (n : Int)) = l := fun l => by
      rw [show (Int.toNat ∘ fun (n : Nat) => (n : Int)) = id from funext fun n => Int.toNat_natCast n, List.map_id]
    rw [e, e] at this
    exact this
  · rintro rfl; rfl
section
variable {P : Program} {w : World} {K : PySem.W.Frag} {mg : Str → Option Value} {base : Heap}
def sp_is_within (K : PySem.W.Frag) : Sp := fun vs H Q _ => ∃ (n : Nat) (a : Addr) (us : List V) (rs : Sm.Rngs), vs = [.int n, .ref a] ∧ SqT K H a us ∧ DpAll K H us (rs.map encS) ∧ ∀ r, r = (rs.any fun y => decide (y.1 ≤ n) && decide (n ≤ y.2)) → Q (.bl r) H
theorem ok_is_within (T : Txt K mg) : FnOk P w K mg base CX0 1 T.f_is_within.a T.f_is_within.fd ["code", "ranges"] (sp_is_within K) := by
  refine T.f_is_within.F.ok sc_is_within (fun vs H Q E h => ?_) (fun cdv A outer s H vs Q E hr h => ⟨_, (pss_cons (ps_for PassesOwn.never rfl (piTK K (pv 1)) (gtK K (n := 2) rfl (pgs_cons (pg_name (i := 2) sc_is_within.nd rfl (Or.inl rfl)) (pgs_cons (pg_name (i := 3) sc_is_within.nd rfl (Or.inl rfl)) pgs_nil))) (pss_one (ps_if (pt_chain op_le op_le (pv 2) (pv 0) (pv 3)) (pss_one (ps_ret pe_bl)) pss_nil)))
 (pss_one (ps_ret pe_bl))), ?_⟩)
  · obtain ⟨_, _, _, _, rfl, _⟩ := h; rfl
  · obtain ⟨n, a, us, rs, rfl, hT, hD, k⟩ := h
    have hlen : us.length = rs.length := by rw [dps_len hD, List.length_map]
    walk_at "u"
    refine f_tup (K := K) (a := a) (xs := us) (fun i σ H' => ∃ v1 v2, σ = [some (.int n), some (.ref a), v1, v2] ∧ H' = H ∧ (rs.any fun y => decide (y.1 ≤ n) && decide (n ≤ y.2)) = ((rs.drop i).any fun y => decide (y.1 ≤ n) && decide (n ≤ y.2))) hT ⟨none, none, rfl, rfl, rfl⟩ (fun i σ H' _ ⟨_, _, _, e, _⟩ => by rw [e]; exact hT) ?_ ?_
    · rintro i x σ H' hx ⟨v1, v2, rfl, rfl, hb⟩
      have hi : i < rs.length := by rw [← hlen]; exact (List.getElem?_eq_some_iff.mp hx).1
      obtain ⟨v, hv, hd⟩ := dps_get hD (i := i) (d := encS rs[i]) (by rw [List.getElem?_map, List.getElem?_eq_getElem hi]; rfl)
      rw [hx] at hv
      cases hv
      obtain ⟨p, rfl, hp⟩ := dp_pair hd
      rw [List.drop_eq_getElem_cons hi, List.any_cons] at hb
      generalize rs[i] = s at hp hb
      refine u_gt hp rfl ?_
      walk_at "u"
      refine ite_d (fun h1 => ?_) (fun h1 => ?_)
      · walk_at "u"
        refine ite_d (fun h2 => ?_) (fun h2 => ?_)
        · walk_at "u"
          exact k _ (by rw [hb, decide_eq_true (show s.1 ≤ n by omega), decide_eq_true (show n ≤ s.2 by omega)]; rfl)
        · walk_at "u"
          exact ⟨_, _, rfl, rfl, by rw [hb, decide_eq_false (show ¬ n ≤ s.2 by omega), Bool.and_false, Bool.false_or]⟩
      · walk_at "u"
        exact ⟨_, _, rfl, rfl, by rw [hb, decide_eq_false (show ¬ s.1 ≤ n by omega), Bool.false_and, Bool.false_or]⟩
    · rintro σ H' ⟨v1, v2, rfl, rfl, hb⟩
      walk_at "u"
      exact k _ (by rw [hb, hlen, List.drop_length]; rfl)
def sp_width_of (K : PySem.W.Frag) : Sp := fun vs H Q _ => ∃ (v : V) (a : Fh.Atom), vs = [v] ∧ Dp K H v (encA a) ∧ ∀ r, r = ((a.size : Nat) : Int) → Q (.int r) H
theorem ok_width_of (T : Txt K mg) : FnOk P w K mg base CX0 1 T.f_width_of.a T.f_width_of.fd ["atom"] (sp_width_of K) := by
  refine T.f_width_of.F.ok sc_width_of (fun vs H Q E h => ?_) (fun cdv A outer s H vs Q E hr h => ⟨_, (pss_one (ps_ret (pe_ifExp (pt_cmpR op_eq (pe_ix (ixTK K) (pv 0) pe_int (fun _ _ => rfl)) (pe_gi T.c_CERTAIN) (nomark _)) (pe_callB (cr_len K) rfl T.b_len PySem.boot_len (pa_cons (pe_ix (ixTK K) (pv 0) pe_int (fun _ _ => rfl)) pa_nil)) pe_int))), ?_⟩)
  · obtain ⟨_, _, rfl, _⟩ := h; rfl
  · obtain ⟨v, a, rfl, hD, k⟩ := h
    obtain ⟨q, u, rfl, hq⟩ := dp_atom hD
    walk_at "u"
    rcases hq with ⟨rfl, hq⟩ | ⟨n, rfl, rfl, hq⟩ | ⟨t, rfl, hq, ht⟩
    · refine u_ixT hq rfl ?_
      walk_at "u"
      refine ite_d (fun h => absurd h (by decide)) (fun _ => ?_)
      walk_at "u"
      exact k _ rfl
    · refine u_ixT hq rfl ?_
      walk_at "u"
      refine ite_d (fun h => absurd h (by decide)) (fun _ => ?_)
      walk_at "u"
      exact k _ rfl
    · obtain ⟨tp, ts, rfl, hts, htd⟩ := dp_tup ht
      have htl : ts.length = t.length := by rw [dps_len htd, List.length_map, natI_len]
      refine u_ixT hq rfl ?_
      walk_at "u"
      refine ite_d (fun _ => ?_) (fun h => absurd rfl h)
      walk_at "u"
      refine u_ixT hq rfl ?_
      walk_at "u"
      refine u_lenT hts ?_
      exact k _ (by rw [htl]; rfl)
def sp_stands_at (K : PySem.W.Frag) : Sp := fun vs H Q _ => ∃ (ca dc : Addr) (v : V) (kvs : List (Key × V)) (R : Fh.Rules) (W : List Nat) (a : Fh.Atom), vs = [.ref ca, v, .ref dc] ∧ LI K H ca (natI W) ∧ W.length ≤ 900000 ∧ Dp K H v (encA a) ∧
  H dc = some (.dK kvs) ∧ CsAt K H kvs R.classes ∧ (R.classes.map fun c => c.1).Nodup ∧ Sm.okA (R.classes.map fun c => c.1) a ∧ ∀ p H', Same H H' → H' p = some (.lst ((Sm.standB R W a).map V.bl)) → Q (.ref p) H'
theorem ok_stands_at (T : Txt K mg) : FnOk P w K mg base CX0 2 T.f_stands_at.a T.f_stands_at.fd ["codes", "atom", "classes"] (sp_stands_at K) := by
  refine T.f_stands_at.F.ok sc_stands_at (fun vs H Q E h => ?_) (fun cdv A outer s H vs Q E hr h => ⟨_, (pss_cons (ps_if (pt_cmpR op_eq (pe_ix (ixTK K) (pv 1) pe_int (fun _ _ => rfl)) (pe_gi T.c_ANY) (nomark _)) (pss_one (ps_ret (pe_lc (own := [("code", 5)]) rfl sc_stands_at.nd (piLK K (pv 0)) (blkOk_by (own := [("code", 5)]) (N := ["codes", "atom", "classes", "wanted", "ranges", "code", "at"]) (sc := defScope s_stands_at) (by decide +kernel)) (fun _ _ _ _ _ => (pg_name (i := 5) sc_stands_at.nd rfl (Or.inl rfl))) (fun _ _ _ _ _ => pts_nil) (fun _ _ _ _ _ => pe_bl)))) pss_nil)
 (pss_cons (ps_if (pt_cmpR op_eq (pe_ix (ixTK K) (pv 1) pe_int (fun _ _ => rfl)) (pe_gi T.c_CERTAIN) (nomark _)) (pss_cons (ps_set (i := 3) sc_stands_at.nd rfl (Or.inr rfl) (pe_callTy (cr_list K) rfl T.b_list (by decide +kernel) (pa_cons (pe_ix (ixTK K) (pv 1) pe_int (fun _ _ => rfl)) pa_nil)))
 (pss_one (ps_ret (pe_lc (own := [("at", 6)]) rfl sc_stands_at.nd (pi_range1 rfl T.b_range (pa_cons (pe_callB (cr_len K) rfl T.b_len PySem.boot_len (pa_cons (pv 0) pa_nil)) pa_nil)) (blkOk_by (own := [("at", 6)]) (N := ["codes", "atom", "classes", "wanted", "ranges", "code", "at"]) (sc := defScope s_stands_at) (by decide +kernel)) (fun _ _ _ _ _ => (pg_name (i := 6) sc_stands_at.nd rfl (Or.inl rfl))) (fun _ _ _ _ _ => pts_nil) (fun _ _ _ _ _ => (pe_cmpR (eqDK K hr.units) (pe_slice (slLK K) (pv 0) (po_some (pv 6)) (po_some (pe_op op_add (pv 6) (pe_callB (cr_len K) rfl T.b_len PySem.boot_len (pa_cons (pv 3) pa_nil))))) (pv 3) (nomark _))))))) pss_nil)
 (pss_cons (ps_set (i := 4) sc_stands_at.nd rfl (Or.inr rfl) (pe_dget (hu_of hr) (pv 2) (pe_ix (ixTK K) (pv 1) pe_int (fun _ _ => rfl)) (fun _ _ => rfl)))
 (pss_one (ps_ret (pe_lc (own := [("code", 5)]) rfl sc_stands_at.nd (piLK K (pv 0)) (blkOk_by (own := [("code", 5)]) (N := ["codes", "atom", "classes", "wanted", "ranges", "code", "at"]) (sc := defScope s_stands_at) (by decide +kernel)) (fun _ _ _ _ _ => (pg_name (i := 5) sc_stands_at.nd rfl (Or.inl rfl))) (fun _ _ _ _ _ => pts_nil) (fun _ _ _ _ _ => (pe_call (ok_is_within T) (hr.mono (by decide)) rfl T.f_is_within.g T.f_is_within.F.kp T.f_is_within.b .nil pass0 (pa_cons (pv 5) (pa_cons (pv 4) pa_nil)))))))))), ?_⟩)
  · obtain ⟨_, _, _, _, _, _, _, rfl, _⟩ := h; rfl
  · obtain ⟨ca, dc, v, kvs, R, W, a, rfl, hL, hWl, hD, hdc, hC, hnd, hok, k⟩ := h
    obtain ⟨q, u, rfl, hq⟩ := dp_atom hD
    walk_at "u"
    rcases hq with ⟨rfl, hq⟩ | ⟨n, rfl, rfl, hq⟩ | ⟨t, rfl, hq, ht⟩
    · refine u_ixT hq rfl ?_
      walk_at "u"
      refine ite_d (fun _ => ?_) (fun h => absurd rfl h)
      walk_at "u"
      rw [Sm.stand_any] at k
      refine c_list (K := K) (a := ca) (xs := (natI W).map V.int) (fun D j H' => H' D = some (.lst (((W.take j).map fun _ => true).map V.bl)) ∧ Same H H') hL (fun D hD => ⟨upd_same, same_new hD⟩) (fun D j H' hD _ ⟨_, s⟩ => same_l s hL) ?_ ?_
      · rintro D j y H' hD hy ⟨hu, s6⟩
        have hj : j < W.length := by have := (List.getElem?_eq_some_iff.mp hy).1; rw [map_int_len, natI_len] at this; exact this
        walk_at "u"
        refine ⟨rfl, ?_⟩
        walk_at "u"
        refine ⟨_, hu, size_less (by rw [List.length_map, List.length_map, List.length_take]; omega), ?_⟩
        refine ⟨?_, same_mut s6 hD⟩
        rw [List.take_add_one, List.getElem?_eq_getElem hj]
        simp only [Option.toList_some, List.map_append, List.map_cons, List.map_nil]
        exact upd_same
      · rintro D H' hD ⟨hu, s6⟩
        rw [map_int_len, natI_len, List.take_length] at hu
        exact k D H' s6 hu
    · refine u_ixT hq rfl ?_
      walk_at "u"
      refine ite_d (fun h => absurd h (by decide)) (fun _ => ?_)
      walk_at "u"
      refine u_ixT hq rfl ?_
      walk_at "u"
      refine ite_d (fun h => absurd h (by decide)) (fun _ => ?_)
      walk_at "u"
      obtain ⟨rs, hrs⟩ := Sm.lookup_mem hok
      obtain ⟨rv, hv, hd⟩ := hC.get hrs
      obtain ⟨tp, ts, rfl, hts, htd⟩ := dp_tup hd
      refine u_ixT hq rfl ?_
      refine u_getI hdc hv ?_
      walk_at "u"
      rw [Sm.stand_cls] at k
      refine c_list (K := K) (a := ca) (xs := (natI W).map V.int) (fun D j H' => H' D = some (.lst (((W.take j).map fun c => R.inClass n c).map V.bl)) ∧ Same H H') hL (fun D hD => ⟨upd_same, same_new hD⟩) (fun D j H' hD _ ⟨_, s⟩ => same_l s hL) ?_ ?_
      · rintro D j y H' hD hy ⟨hu, s6⟩
        have hj : j < W.length := by have := (List.getElem?_eq_some_iff.mp hy).1; rw [map_int_len, natI_len] at this; exact this
        rw [List.getElem?_map, natI_at (List.getElem?_eq_getElem hj)] at hy
        cases hy
        walk_at "u"
        refine ⟨rfl, ?_⟩
        walk_at "u"
        refine ⟨W[j], tp, ts, rs, rfl, same_t s6 hts, dps_same s6 htd, fun r hr => ?_⟩
        refine ⟨_, hu, size_less (by rw [List.length_map, List.length_map, List.length_take]; omega), ?_⟩
        refine ⟨?_, same_mut s6 hD⟩
        rw [List.take_add_one, List.getElem?_eq_getElem hj]
        simp only [Option.toList_some, List.map_append, List.map_cons, List.map_nil]
        rw [hr, ← Sm.inClass_nd hnd hrs]
        exact upd_same
      · rintro D H' hD ⟨hu, s6⟩
        rw [map_int_len, natI_len, List.take_length] at hu
        exact k D H' s6 hu
    · obtain ⟨tp, ts, rfl, hts, htd⟩ := dp_tup ht
      have ets : ts = (natI t).map V.int := dps_ints htd
      subst ets
      refine u_ixT hq rfl ?_
      walk_at "u"
      refine ite_d (fun h => absurd h (by decide)) (fun _ => ?_)
      walk_at "u"
      refine u_ixT hq rfl ?_
      walk_at "u"
      refine ite_d (fun _ => ?_) (fun h => absurd rfl h)
      walk_at "u"
      refine u_ixT hq rfl ?_
      walk_at "u"
      refine u_listT hts fun l hl => ?_
      have s1 := same_new (o := .lst ((natI t).map V.int)) hl
      have hl1 : LI K (upd H l (.lst ((natI t).map V.int))) l (natI t) := li_of upd_same
      generalize upd H l (.lst ((natI t).map V.int)) = H1 at s1 hl1
      have hL1 := same_l s1 hL
      walk_at "u"
      refine u_lenL hL1 ?_
      walk_at "u"
      rw [map_int_len, natI_len]
      rw [Sm.stand_lit] at k
      refine c_rng1 (n := (W.length : Nat)) (fun D j H' => H' D = some (.lst (((List.range j).map fun i => decide ((W.drop i).take t.length = t)).map V.bl)) ∧ Same H1 H') (by omega) (by omega) (fun D hD => ⟨upd_same, same_new hD⟩) ?_ ?_
      · rintro D j H' hD hj ⟨hu, s6⟩
        have hj2 : j < W.length := by omega
        walk_at "u"
        refine ⟨rfl, ?_⟩
        walk_at "u"
        refine u_lenL (same_l s6 hl1) ?_
        walk_at "u"
        rw [map_int_len, natI_len]
        refine u_slL (same_l s6 hL1) fun p hp => ?_
        have e1 : cutV ((natI W).map V.int) (some (j : Int)) (some ((j : Int) + (t.length : Nat))) = (natI ((W.drop j).take t.length)).map V.int := by
          rw [show (j : Int) + (t.length : Nat) = ((j + t.length : Nat) : Int) by omega, cut_nat]
          unfold natI
          rw [← List.map_drop, ← List.map_drop, ← List.map_take, ← List.map_take, Nat.add_sub_cancel_left]
        rw [e1]
        have s7 := same_new (o := .lst ((natI ((W.drop j).take t.length)).map V.int)) hp
        have hDp : D ≠ p := ne_of_none hu hp
        walk_at "u"
        refine u_eqL (li_of upd_same) (same_l (s6.trans s7) hl1) ?_
        refine ⟨_, (upd_ne hDp).trans hu, size_less (by rw [List.length_map, List.length_map, List.length_range]; omega), ?_⟩
        refine ⟨?_, same_mut (s6.trans s7) hD⟩
        rw [List.range_succ, List.map_append, List.map_append]
        have e2 : decide (natI ((W.drop j).take t.length) = natI t) = decide ((W.drop j).take t.length = t) := decide_eq_decide.mpr natI_inj
        rw [e2]
        exact upd_same
      · rintro D H' hD ⟨hu, s6⟩
        rw [Int.toNat_natCast] at hu
        exact k D H' (s1.trans s6) hu
end
end Sr
namespace Sr
open PySem PySem.Spec PyProof.Rows L2
open Fh (Bytes)
section
variable {P : Program} {w : World} {K : PySem.W.Frag} {mg : Str → Option Value} {base : Heap}
def sp_moved_on (K : PySem.W.Frag) : Sp := fun vs H Q _ => ∃ (pa sa : Addr) (P S : List Bool) (w : Nat), vs = [.ref pa, .ref sa, .int w] ∧ LB K H pa P ∧ LB K H sa S ∧ P.length = S.length + 1 ∧ 0 < w ∧ w ≤ 900000 ∧ P.length ≤ 900001 ∧ ∀ p H', Same H H' → H' p = some (.lst ((Sm.onM S w P).map V.bl)) → Q (.ref p) H'
theorem getB_ext {A B : List Bool} (h : A.length = B.length) (e : ∀ j, Sm.getB A j = Sm.getB B j) : A = B := by
  apply List.ext_getElem h
  intro i h1 h2
  have q := e i
  unfold Sm.getB at q
  rw [List.getElem?_eq_getElem h1, List.getElem?_eq_getElem h2] at q
  exact q
theorem getB_set {F : List Bool} {i : Nat} {b : Bool} (h : i < F.length) (j : Nat) : Sm.getB (F.set i b) j = if i = j then b else Sm.getB F j := by
  unfold Sm.getB
  rw [List.getElem?_set]
  by_cases e : i = j
  · subst e; rw [if_pos rfl, if_pos rfl, if_pos h]; rfl
  · rw [if_neg e, if_neg e]
theorem getB_at {F : List Bool} {i : Nat} (h : i < F.length) : F[i]? = some (Sm.getB F i) := by
  unfold Sm.getB
  rw [List.getElem?_eq_getElem h]; rfl
theorem getB_rep (n j : Nat) : Sm.getB (List.replicate n false) j = false := by
  unfold Sm.getB
  rw [List.getElem?_replicate]
  by_cases h : j < n
  · rw [if_pos h]; rfl
  · rw [if_neg h]; rfl
theorem ok_moved_on (T : Txt K mg) : FnOk P w K mg base CX0 1 T.f_moved_on.a T.f_moved_on.fd ["places", "stands", "width"] (sp_moved_on K) := by
  refine T.f_moved_on.F.ok sc_moved_on (fun vs H Q E h => ?_) (fun cdv A outer s H vs Q E hr h => ⟨_, (pss_cons (ps_set (i := 3) sc_moved_on.nd rfl (Or.inl rfl) (pe_op op_rep (pe_lst (pa_cons pe_bl pa_nil)) (pe_callB (cr_len K) rfl T.b_len PySem.boot_len (pa_cons (pv 0) pa_nil))))
 (pss_cons (ps_for PassesOwn.never rfl (pi_range1 rfl T.b_range (pa_cons (pe_op op_sub (pe_callB (cr_len K) rfl T.b_len PySem.boot_len (pa_cons (pv 0) pa_nil)) (pv 2)) pa_nil)) (pg_name (i := 4) sc_moved_on.nd rfl (Or.inl rfl)) (pss_one (ps_asg (pe_and (pe_ix (ixLK K) (pv 0) (pv 4) (fun _ _ => rfl)) (pe_one (pe_ix (ixLK K) (pv 1) (pv 4) (fun _ _ => rfl)))) (pg_sub (pv 3) (pe_op op_add (pv 4) (pv 2)) set_list))))
 (pss_one (ps_ret (pv 3))))), ?_⟩)
  · obtain ⟨_, _, _, _, _, rfl, _⟩ := h; rfl
  · obtain ⟨pa, sa, P, S, w, rfl, hP, hS, hPS, hw, hw2, hPl, k⟩ := h
    walk_at "u"
    refine ⟨by show 1 ≤ sizeLine; decide, fun l0 hl0 => ?_⟩
    have s0 := same_new (o := .lst [.bl false]) hl0
    walk_at "u"
    refine u_lenL (same_l s0 hP) ?_
    rw [map_bl_len]
    refine u_rep1 upd_same rfl (by omega) fun f hf => ?_
    have s1 := same_then (o := .lst (List.replicate P.length (.bl false))) s0 hf
    have hf1 : upd (upd H l0 (.lst [.bl false])) f (.lst (List.replicate P.length (.bl false))) f = some (.lst ((List.replicate P.length false).map V.bl)) := by rw [List.map_replicate]; exact upd_same
    generalize upd (upd H l0 (.lst [.bl false])) f (.lst (List.replicate P.length (.bl false))) = H1 at s1 hf1
    have hfH : H f = none := by
      cases e : H f with
      | none => rfl
      | some o => have := s0 _ _ e; rw [hf] at this; cases this
    walk_at "u"
    refine u_lenL (same_l s1 hP) ?_
    walk_at "u"
    rw [map_bl_len]
    refine f_rng1 (n := (P.length : Int) - (w : Int)) (fun i σ H' => ∃ (v : Option V) (F : List Bool), σ = [some (.ref pa), some (.ref sa), some (.int w), some (.ref f), v] ∧ Same H H' ∧ H' f = some (.lst (F.map V.bl)) ∧ F.length = P.length ∧ ∀ j, Sm.getB F j = (decide (w ≤ j) && (decide (j < i + w) && (Sm.getB P (j - w) && Sm.getB S (j - w))))) (by omega) (by omega)
      ⟨none, List.replicate P.length false, rfl, s1, hf1, List.length_replicate, fun j => ?_⟩ ?_ ?_
    · rw [getB_rep]
      by_cases h : w ≤ j
      · rw [decide_eq_false (show ¬ j < 0 + w by omega), Bool.false_and, Bool.and_false]
      · rw [decide_eq_false h, Bool.false_and]
    · rintro i σ H' hi ⟨v, F, rfl, s2, hf2, hFl, hF⟩
      have hi2 : i + w < P.length := by omega
      have hiP : i < P.length := by omega
      have hiS : i < S.length := by omega
      refine u_gn (u_asg ?_)
      refine te_cut (.bl (Sm.getB P i && Sm.getB S i)) (fun Q' q => ?_) (fun H3 s3 => ?_)
      · walk_at "u"
        refine u_ixL (same_l s2 hP) (at_bl rfl (getB_at hiP)) ?_
        walk_at "u"
        refine ite_b (fun h => ?_) (fun h => ?_)
        · walk_at "u"
          refine u_ixL (same_l s2 hS) (at_bl rfl (getB_at hiS)) ?_
          exact q _ _ (Same.refl _) (by rw [h, Bool.true_and])
        · exact q _ _ (Same.refl _) (by rw [h, Bool.false_and])
      · have hf3 := s3 _ _ hf2
        refine u_gsub ?_
        walk_at "u"
        refine u_setL (j := i + w) (by omega) hf3 (by rw [map_bl_len]; omega) ?_
        rw [map_set_bl]
        refine ⟨_, F.set (i + w) (Sm.getB P i && Sm.getB S i), rfl, same_mut (s2.trans s3) hfH, upd_same, by rw [List.length_set]; exact hFl, fun j => ?_⟩
        rw [getB_set (by omega)]
        by_cases e : i + w = j
        · subst e
          rw [if_pos rfl, decide_eq_true (show w ≤ i + w by omega), decide_eq_true (show i + w < i + 1 + w by omega), Nat.add_sub_cancel]; rfl
        · rw [if_neg e, hF]
          congr 2
          exact decide_eq_decide.mpr (by omega)
    · rintro σ H' ⟨v, F, rfl, s2, hf2, hFl, hF⟩
      walk_at "u"
      refine k f H' s2 ?_
      have e : F = Sm.onM S w P := by
        refine getB_ext (by rw [hFl, Sm.on_len]) fun j => ?_
        unfold Sm.onM
        rw [hF, Sm.getB_range]
        by_cases h1 : w ≤ j
        · rw [decide_eq_true h1]
          by_cases h2 : j < P.length
          · rw [decide_eq_true h2, decide_eq_true (show j < ((P.length : Int) - (w : Int)).toNat + w by omega)]
          · rw [decide_eq_false h2, decide_eq_false (show ¬ j < ((P.length : Int) - (w : Int)).toNat + w by omega)]
            simp only [Bool.false_and, Bool.and_false]
        · rw [decide_eq_false h1]
          simp only [Bool.false_and, Bool.and_false]
      rw [← e]
      exact hf2
def sp_moved_back (K : PySem.W.Frag) : Sp := fun vs H Q _ => ∃ (pa sa : Addr) (P S : List Bool) (w : Nat), vs = [.ref pa, .ref sa, .int w] ∧ LB K H pa P ∧ LB K H sa S ∧ P.length = S.length + 1 ∧ 0 < w ∧ w ≤ 900000 ∧ P.length ≤ 900001 ∧ ∀ p H', Same H H' → H' p = some (.lst ((Sm.backM S w P).map V.bl)) → Q (.ref p) H'
theorem ok_moved_back (T : Txt K mg) : FnOk P w K mg base CX0 1 T.f_moved_back.a T.f_moved_back.fd ["places", "stands", "width"] (sp_moved_back K) := by
  refine T.f_moved_back.F.ok sc_moved_back (fun vs H Q E h => ?_) (fun cdv A outer s H vs Q E hr h => ⟨_, (pss_cons (ps_set (i := 3) sc_moved_back.nd rfl (Or.inl rfl) (pe_op op_rep (pe_lst (pa_cons pe_bl pa_nil)) (pe_callB (cr_len K) rfl T.b_len PySem.boot_len (pa_cons (pv 0) pa_nil))))
 (pss_cons (ps_for PassesOwn.never rfl (pi_range1 rfl T.b_range (pa_cons (pe_op op_sub (pe_callB (cr_len K) rfl T.b_len PySem.boot_len (pa_cons (pv 0) pa_nil)) (pv 2)) pa_nil)) (pg_name (i := 4) sc_moved_back.nd rfl (Or.inl rfl)) (pss_one (ps_asg (pe_and (pe_ix (ixLK K) (pv 1) (pv 4) (fun _ _ => rfl)) (pe_one (pe_ix (ixLK K) (pv 0) (pe_op op_add (pv 4) (pv 2)) (fun _ _ => rfl)))) (pg_sub (pv 3) (pv 4) set_list))))
 (pss_one (ps_ret (pv 3))))), ?_⟩)
  · obtain ⟨_, _, _, _, _, rfl, _⟩ := h; rfl
  · obtain ⟨pa, sa, P, S, w, rfl, hP, hS, hPS, hw, hw2, hPl, k⟩ := h
    walk_at "u"
    refine ⟨by show 1 ≤ sizeLine; decide, fun l0 hl0 => ?_⟩
    have s0 := same_new (o := .lst [.bl false]) hl0
    walk_at "u"
    refine u_lenL (same_l s0 hP) ?_
    rw [map_bl_len]
    refine u_rep1 upd_same rfl (by omega) fun f hf => ?_
    have s1 := same_then (o := .lst (List.replicate P.length (.bl false))) s0 hf
    have hf1 : upd (upd H l0 (.lst [.bl false])) f (.lst (List.replicate P.length (.bl false))) f = some (.lst ((List.replicate P.length false).map V.bl)) := by rw [List.map_replicate]; exact upd_same
    generalize upd (upd H l0 (.lst [.bl false])) f (.lst (List.replicate P.length (.bl false))) = H1 at s1 hf1
    have hfH : H f = none := by
      cases e : H f with
      | none => rfl
      | some o => have := s0 _ _ e; rw [hf] at this; cases this
    walk_at "u"
    refine u_lenL (same_l s1 hP) ?_
    walk_at "u"
    rw [map_bl_len]
    refine f_rng1 (n := (P.length : Int) - (w : Int)) (fun i σ H' => ∃ (v : Option V) (F : List Bool), σ = [some (.ref pa), some (.ref sa), some (.int w), some (.ref f), v] ∧ Same H H' ∧ H' f = some (.lst (F.map V.bl)) ∧ F.length = P.length ∧ ∀ j, Sm.getB F j = (decide (j < i) && (Sm.getB S j && Sm.getB P (j + w)))) (by omega) (by omega)
      ⟨none, List.replicate P.length false, rfl, s1, hf1, List.length_replicate, fun j => ?_⟩ ?_ ?_
    · rw [getB_rep, decide_eq_false (show ¬ j < 0 by omega), Bool.false_and]
    · rintro i σ H' hi ⟨v, F, rfl, s2, hf2, hFl, hF⟩
      have hi2 : i + w < P.length := by omega
      have hiP : i < P.length := by omega
      have hiS : i < S.length := by omega
      refine u_gn (u_asg ?_)
      refine te_cut (.bl (Sm.getB S i && Sm.getB P (i + w))) (fun Q' q => ?_) (fun H3 s3 => ?_)
      · walk_at "u"
        refine u_ixL (same_l s2 hS) (at_bl rfl (getB_at hiS)) ?_
        walk_at "u"
        refine ite_b (fun h => ?_) (fun h => ?_)
        · walk_at "u"
          refine u_ixL (same_l s2 hP) (at_bl (by omega) (getB_at hi2)) ?_
          exact q _ _ (Same.refl _) (by rw [h, Bool.true_and])
        · exact q _ _ (Same.refl _) (by rw [h, Bool.false_and])
      · have hf3 := s3 _ _ hf2
        refine u_gsub ?_
        walk_at "u"
        refine u_setL (j := i) rfl hf3 (by rw [map_bl_len]; omega) ?_
        rw [map_set_bl]
        refine ⟨_, F.set i (Sm.getB S i && Sm.getB P (i + w)), rfl, same_mut (s2.trans s3) hfH, upd_same, by rw [List.length_set]; exact hFl, fun j => ?_⟩
        rw [getB_set (by omega)]
        by_cases e : i = j
        · subst e
          rw [if_pos rfl, decide_eq_true (show i < i + 1 by omega)]; rfl
        · rw [if_neg e, hF]
          congr 1
          exact decide_eq_decide.mpr (by omega)
    · rintro σ H' ⟨v, F, rfl, s2, hf2, hFl, hF⟩
      walk_at "u"
      refine k f H' s2 ?_
      have e : F = Sm.backM S w P := by
        refine getB_ext (by rw [hFl, Sm.back_len]) fun j => ?_
        unfold Sm.backM
        rw [hF, Sm.getB_range]
        by_cases h2 : j + w < P.length
        · rw [decide_eq_true (show j < P.length by omega), decide_eq_true (show j < ((P.length : Int) - (w : Int)).toNat by omega)]
        · rw [Sm.getB_le (P := P) (i := j + w) (by omega)]
          simp only [Bool.and_false]
      rw [← e]
      exact hf2
end
end Sr
namespace Sr
open PySem PySem.Spec PyProof.Rows L2
open Fh (Bytes)
theorem none_of {H H' : Hp} {a : Addr} (s : Same H H') (h : H' a = none) : H a = none := by
  cases e : H a with
  | none => rfl
  | some o => have := s _ _ e; rw [h] at this; cases this
theorem all_false {Q : List Bool} (h : Q.contains true = false) (j : Nat) : Sm.getB Q j = false := by
  unfold Sm.getB
  cases e : Q[j]? with
  | none => rfl
  | some b =>
    cases b with
    | false => rfl
    | true =>
      have : true ∈ Q := List.mem_of_getElem? e
      rw [← List.contains_iff_mem, h] at this
      cases this
def mvM (back : Bool) (S : List Bool) (w : Nat) : List Bool → List Bool := if back = true then Sm.backM S w else Sm.onM S w
theorem mv_len (back : Bool) (S : List Bool) (w : Nat) (P : List Bool) : (mvM back S w P).length = P.length := by
  unfold mvM
  cases back
  · exact Sm.on_len
  · exact Sm.back_len
theorem mv_none {back : Bool} {S : List Bool} {w : Nat} {P : List Bool} (h : P.contains true = false) : mvM back S w P = P := by
  refine getB_ext (mv_len _ _ _ _) fun j => ?_
  rw [all_false h]
  unfold mvM
  cases back
  · show Sm.getB (Sm.onM S w P) j = false
    unfold Sm.onM
    rw [Sm.getB_range, all_false h]
    simp only [Bool.false_and, Bool.and_false]
  · show Sm.getB (Sm.backM S w P) j = false
    unfold Sm.backM
    rw [Sm.getB_range, all_false h]
    simp only [Bool.and_false]
theorem zipOr_at {A B : List Bool} {i : Nat} {a b : Bool} (h1 : A[i]? = some a) (h2 : B[i]? = some b) : (Sm.zipOr A B).take (i + 1) = (Sm.zipOr A B).take i ++ [a || b] := by
  have e : (Sm.zipOr A B)[i]? = some (a || b) := by
    unfold Sm.zipOr
    rw [List.getElem?_zipWith, h1, h2]
  rw [List.take_add_one, e]; rfl
section
variable {P : Program} {w : World} {K : PySem.W.Frag} {mg : Str → Option Value} {base : Heap}
def sp_past_item (K : PySem.W.Frag) : Sp := fun vs H Q _ => ∃ (ca dc pa : Addr) (v : V) (kvs : List (Key × V)) (R : Fh.Rules) (W : List Nat) (it : Fh.Item) (B : List Bool) (back : Bool), vs = [.ref ca, v, .ref dc, .ref pa, .bl back] ∧ LI K H ca (natI W) ∧ W.length ≤ 900000 ∧ Dp K H v (encI it) ∧
  H dc = some (.dK kvs) ∧ CsAt K H kvs R.classes ∧ (R.classes.map fun c => c.1).Nodup ∧ Sm.okIt (R.classes.map fun c => c.1) it ∧ it.atom.size ≤ 900000 ∧ LB K H pa B ∧ B.length = W.length + 1 ∧ ∀ p H', Same H H' → LB K H' p (Sm.pastM R W it B back) → Q (.ref p) H'
theorem ok_past_item (T : Txt K mg) : FnOk P w K mg base CX0 3 T.f_past_item.a T.f_past_item.fd ["codes", "item", "classes", "places", "is_back"] (sp_past_item K) := by
  refine T.f_past_item.F.ok sc_past_item (fun vs H Q E h => ?_) (fun cdv A outer s H vs Q E hr h => ⟨_, (pss_cons (ps_asg (pv 1) (gtK K (n := 3) rfl (pgs_cons (pg_name (i := 5) sc_past_item.nd rfl (Or.inl rfl)) (pgs_cons (pg_name (i := 6) sc_past_item.nd rfl (Or.inl rfl)) (pgs_cons (pg_name (i := 7) sc_past_item.nd rfl (Or.inl rfl)) pgs_nil)))))
 (pss_cons (ps_par (i := 8) (j := 9) (by rfl) sc_past_item.nd rfl rfl (by decide) rfl rfl (pa_cons (pe_call (ok_stands_at T) (hr.mono (by decide)) rfl T.f_stands_at.g T.f_stands_at.F.kp T.f_stands_at.b .nil pass0 (pa_cons (pv 0) (pa_cons (pv 5) (pa_cons (pv 2) pa_nil)))) (pa_cons (pe_call (ok_width_of T) (hr.mono (by decide)) rfl T.f_width_of.g T.f_width_of.F.kp T.f_width_of.b .nil pass0 (pa_cons (pv 5) pa_nil)) pa_nil)) (by rfl))
 (pss_cons (ps_par (i := 10) (j := 11) (by rfl) sc_past_item.nd rfl rfl (by decide) rfl rfl (pa_cons (pe_op op_rep (pe_lst (pa_cons pe_bl pa_nil)) (pe_callB (cr_len K) rfl T.b_len PySem.boot_len (pa_cons (pv 3) pa_nil))) (pa_cons (pe_callTy (cr_list K) rfl T.b_list (by decide +kernel) (pa_cons (pv 3) pa_nil)) pa_nil)) (by rfl))
 (pss_cons (ps_for PassesOwn.never rfl (pi_range1 rfl T.b_range (pa_cons (pe_op op_add (pv 7) pe_int) pa_nil)) (pg_name (i := 12) sc_past_item.nd rfl (Or.inl rfl)) (pss_cons (ps_if (pt_cmpR op_ge (pv 12) (pv 6) (nomark _)) (pss_one (ps_setLc (i := 10) (own := [("one", 13), ("other", 14)]) rfl sc_past_item.nd rfl rfl (sw_true rfl rfl rfl (by decide +kernel)) (piZK K rfl T.b_zip (pa_cons (pv 10) (pa_cons (pv 11) pa_nil))) (blkOk_by (own := [("one", 13), ("other", 14)]) (N := ["codes", "item", "classes", "places", "is_back", "atom", "least", "most", "stands", "width", "found", "here", "turn", "one", "other"]) (sc := defScope s_past_item) (by decide +kernel)) (fun _ _ _ _ _ => (gtK K (n := 2) rfl (pgs_cons (pg_name (i := 13) sc_past_item.nd rfl (Or.inl rfl)) (pgs_cons (pg_name (i := 14) sc_past_item.nd rfl (Or.inl rfl)) pgs_nil)))) (fun _ _ _ _ _ => pts_nil) (fun _ _ _ _ _ => (pe_or (pv 13) (pe_one (pv 14)))))) pss_nil)
 (pss_one (ps_if (pt_cmpR (inK K) pe_bl (pv 11) (by rfl)) (pss_one (ps_set (i := 11) sc_past_item.nd rfl (Or.inl rfl) (pe_ifExp (pt_val (pv 4)) (pe_call (ok_moved_back T) (hr.mono (by decide)) rfl T.f_moved_back.g T.f_moved_back.F.kp T.f_moved_back.b .nil pass0 (pa_cons (pv 11) (pa_cons (pv 8) (pa_cons (pv 9) pa_nil)))) (pe_call (ok_moved_on T) (hr.mono (by decide)) rfl T.f_moved_on.g T.f_moved_on.F.kp T.f_moved_on.b .nil pass0 (pa_cons (pv 11) (pa_cons (pv 8) (pa_cons (pv 9) pa_nil))))))) pss_nil))))
 (pss_one (ps_ret (pv 10))))))), ?_⟩)
  · obtain ⟨_, _, _, _, _, _, _, _, _, _, rfl, _⟩ := h; rfl
  · obtain ⟨ca, dc, pa, v, kvs, R, W, it, B, back, rfl, hL, hWl, hD, hdc, hC, hnd, hok, hsz, hB, hBl, k⟩ := h
    obtain ⟨ip, va, rfl, hip, ha⟩ := dp_itm hD
    walk_at "u"
    refine u_gt hip rfl ?_
    walk_at "u"
    refine ⟨ca, dc, va, kvs, R, W, it.atom, rfl, hL, hWl, ha, hdc, hC, hnd, hok.2, fun sa H1 s1 hsa => ?_⟩
    walk_at "u"
    refine ⟨va, it.atom, rfl, dp_same s1 ha, fun r hr => ?_⟩
    subst hr
    walk_at "u"
    refine ⟨by show 1 ≤ sizeLine; decide, fun l0 hl0 => ?_⟩
    have s2 := same_then (o := .lst [.bl false]) s1 hl0
    have hsa2 := (same_new (o := .lst [.bl false]) hl0) _ _ hsa
    walk_at "u"
    refine u_lenL (same_l s2 hB) ?_
    rw [map_bl_len]
    refine u_rep1 upd_same rfl (by omega) fun f hf => ?_
    have s3 := same_then (o := .lst (List.replicate B.length (.bl false))) s2 hf
    have hsa3 := (same_new (o := .lst (List.replicate B.length (.bl false))) hf) _ _ hsa2
    have hf1 : upd (upd H1 l0 (.lst [.bl false])) f (.lst (List.replicate B.length (.bl false))) f = some (.lst ((List.replicate B.length false).map V.bl)) := by rw [List.map_replicate]; exact upd_same
    generalize upd (upd H1 l0 (.lst [.bl false])) f (.lst (List.replicate B.length (.bl false))) = H3 at s3 hf1 hsa3
    walk_at "u"
    refine u_listL (same_l s3 hB) fun h0 hh0 => ?_
    have s4 := same_then (o := .lst (B.map V.bl)) s3 hh0
    have n4 := same_new (o := .lst (B.map V.bl)) hh0
    have hsa4 := n4 _ _ hsa3
    have hf4 := n4 _ _ hf1
    have hh4 : upd H3 h0 (.lst (B.map V.bl)) h0 = some (.lst (B.map V.bl)) := upd_same
    generalize upd H3 h0 (.lst (B.map V.bl)) = H4 at s4 hsa4 hf4 hh4
    clear hf1 hsa2 hsa3 s2 s3 n4
    walk_at "u"
    refine f_rng1 (n := ((it.most : Nat) : Int) + 1) (fun i σ H' => ∃ (fa ha : Addr) (v12 : Option V), σ = [some (.ref ca), some (.ref ip), some (.ref dc), some (.ref pa), some (.bl back), some va, some (.int it.least), some (.int it.most), some (.ref sa), some (.int (it.atom.size : Nat)), some (.ref fa), some (.ref ha), v12, none, none] ∧
        Same H4 H' ∧ LB K H' fa (Sm.foundM (mvM back (Sm.standB R W it.atom) it.atom.size) it.least B i) ∧ LB K H' ha (Sm.iterM (mvM back (Sm.standB R W it.atom) it.atom.size) i B)) (by omega) (by have := hok.1; omega)
      ⟨f, h0, none, rfl, Same.refl _, Or.inl (Or.inl hf4), Or.inl (Or.inl hh4)⟩ ?_ ?_
    · rintro i σ H5 hi ⟨fa, hha, v12, rfl, s5, hfa, hhe⟩
      have ml := mv_len back (Sm.standB R W it.atom) it.atom.size
      have lA := Sm.found_len ml (least := it.least) (P := B) i
      have lB := Sm.iter_len ml i B
      have hmore := fun c : it.least ≤ i => (show Sm.foundM (mvM back (Sm.standB R W it.atom) it.atom.size) it.least B (i + 1) = _ from if_pos c)
      have hless := fun c : ¬ it.least ≤ i => (show Sm.foundM (mvM back (Sm.standB R W it.atom) it.atom.size) it.least B (i + 1) = _ from if_neg c)
      have hit : Sm.iterM (mvM back (Sm.standB R W it.atom) it.atom.size) (i + 1) B = mvM back (Sm.standB R W it.atom) it.atom.size (Sm.iterM (mvM back (Sm.standB R W it.atom) it.atom.size) i B) := rfl
      generalize Sm.foundM (mvM back (Sm.standB R W it.atom) it.atom.size) it.least B (i + 1) = F1 at hmore hless ⊢
      generalize Sm.foundM (mvM back (Sm.standB R W it.atom) it.atom.size) it.least B i = F0 at hfa hmore hless lA
      generalize Sm.iterM (mvM back (Sm.standB R W it.atom) it.atom.size) (i + 1) B = I1 at hit ⊢
      generalize Sm.iterM (mvM back (Sm.standB R W it.atom) it.atom.size) i B = I0 at hhe hmore hit lB
      refine u_gn ?_
      refine u_seq (u_cut (fun σ' H' => ∃ fa' : Addr, σ' = [some (.ref ca), some (.ref ip), some (.ref dc), some (.ref pa), some (.bl back), some va, some (.int it.least), some (.int it.most), some (.ref sa), some (.int (it.atom.size : Nat)), some (.ref fa'), some (.ref hha), some (.int i), none, none] ∧ Same H5 H' ∧ LB K H' fa' F1) (fun nx' hn => ?_) ?_)
      · walk_at "u"
        refine ite_d (fun c => ?_) (fun c => ?_)
        · have hF := hmore (by omega)
          subst hF
          walk_at "u"
          refine c_zip (K := K) (a := fa) (b := hha) (xs := F0.map V.bl) (ys := I0.map V.bl) (fun D j H' => H' D = some (.lst (((Sm.zipOr F0 I0).take j).map V.bl)) ∧ Same H5 H') hfa hhe (by rw [map_bl_len, map_bl_len, lA, lB]) (fun D hD => ⟨upd_same, same_new hD⟩) (fun D j H' hD _ ⟨_, s⟩ => ⟨same_l s hfa, same_l s hhe⟩) ?_ ?_
          · rintro D j x y H' t hD hx hy ⟨hu, s6⟩ ht
            have hj : j < F0.length := by have := (List.getElem?_eq_some_iff.mp hx).1; rw [map_bl_len] at this; exact this
            have hj2 : j < I0.length := by rw [lB, ← lA]; exact hj
            rw [List.getElem?_map, getB_at hj] at hx
            rw [List.getElem?_map, getB_at hj2] at hy
            cases hx
            cases hy
            have s7 := same_new (o := .tup [.bl (Sm.getB F0 j), .bl (Sm.getB I0 j)]) ht
            refine u_gt (SqT.of upd_same) rfl ?_
            walk_at "u"
            refine ⟨rfl, ?_⟩
            have z := zipOr_at (getB_at hj) (getB_at hj2)
            have fin : ∀ b, b = (Sm.getB F0 j || Sm.getB I0 j) → ∃ acc, upd H' t (.tup [.bl (Sm.getB F0 j), .bl (Sm.getB I0 j)]) D = some (.lst acc) ∧ acc.length < sizeLine ∧ (fun D j H' => H' D = some (.lst (((Sm.zipOr F0 I0).take j).map V.bl)) ∧ Same H5 H') D (j + 1) (upd (upd H' t (.tup [.bl (Sm.getB F0 j), .bl (Sm.getB I0 j)])) D (.lst (acc ++ [.bl b]))) := by
              rintro b rfl
              refine ⟨_, s7 _ _ hu, size_less (by rw [List.length_map, List.length_take]; omega), ?_, same_mut (s6.trans s7) hD⟩
              rw [z, List.map_append]
              exact upd_same
            walk_at "u"
            refine ite_b (fun h => ?_) (fun h => ?_)
            · exact fin _ (by rw [h, Bool.true_or])
            · walk_at "u"
              exact fin _ (by rw [h, Bool.false_or])
          · rintro D H' hD ⟨hu, s6⟩
            rw [map_bl_len, List.take_of_length_le (by rw [Sm.zipOr_len (by rw [lA, lB])]; exact Nat.le_refl _)] at hu
            walk_at "u"
            exact hn _ _ ⟨D, rfl, s6, Or.inl (Or.inl hu)⟩
        · have hF := hless (by omega)
          subst hF
          walk_at "u"
          exact hn _ _ ⟨fa, rfl, Same.refl _, hfa⟩
      · rintro _ H6 ⟨fa', rfl, s6, hfa'⟩
        have hhe6 := same_l s6 hhe
        have hsa6 := (s5.trans s6) _ _ hsa4
        walk_at "u"
        refine u_in (Or.inl hhe6) rfl (flat_bl _) ?_
        rw [inV_true]
        walk_at "u"
        refine ite_b (fun h => ?_) (fun h => ?_)
        · walk_at "u"
          have pl : I0.length = (Sm.standB R W it.atom).length + 1 := by
            unfold Sm.standB
            rw [lB, hBl, List.length_map, List.length_range]
          cases back with
          | true =>
            refine ite_t ?_
            walk_at "u"
            refine ⟨hha, sa, I0, _, it.atom.size, rfl, hhe6, Or.inl (Or.inl hsa6), pl, Sm.okA_size hok.2, hsz, by omega, fun p H7 s7 hp => ?_⟩
            walk_at "u"
            exact ⟨fa', p, _, rfl, (s5.trans s6).trans s7, same_l s7 hfa', by rw [hit]; exact Or.inl (Or.inl hp)⟩
          | false =>
            refine ite_f ?_
            walk_at "u"
            refine ⟨hha, sa, I0, _, it.atom.size, rfl, hhe6, Or.inl (Or.inl hsa6), pl, Sm.okA_size hok.2, hsz, by omega, fun p H7 s7 hp => ?_⟩
            walk_at "u"
            exact ⟨fa', p, _, rfl, (s5.trans s6).trans s7, same_l s7 hfa', by rw [hit]; exact Or.inl (Or.inl hp)⟩
        · rw [mv_none h] at hit
          subst hit
          walk_at "u"
          exact ⟨fa', hha, _, rfl, s5.trans s6, hfa', hhe6⟩
    · rintro σ H5 ⟨fa, hha, v12, rfl, s5, hfa, hhe⟩
      walk_at "u"
      refine k fa H5 (s4.trans s5) ?_
      have e : (((it.most : Nat) : Int) + 1).toNat = it.most + 1 := by omega
      rw [e] at hfa
      exact hfa
end
end Sr
namespace Sr
open PySem PySem.Spec PyProof.Rows L2
open Fh (Bytes)
/-- what the walk asks of a rule -/
structure OkRu (R : Fh.Rules) (r : Fh.Rule) : Prop where
  ok : Sm.okRl (R.classes.map fun c => c.1) r
  sb : ∀ it ∈ r.before, it.atom.size ≤ 900000
  sh : ∀ it ∈ r.behind, it.atom.size ≤ 900000
theorem range_map_take {α : Type} (f : Nat → α) (n : Nat) : (List.range (n + 1)).map f = (List.range n).map f ++ [f n] := by rw [List.range_succ, List.map_append]; rfl
section
variable {P : Program} {w : World} {K : PySem.W.Frag} {mg : Str → Option Value} {base : Heap}
def sp_places_before (K : PySem.W.Frag) : Sp := fun vs H Q _ => ∃ (ca dc : Addr) (v : V) (kvs : List (Key × V)) (R : Fh.Rules) (W : List Nat) (r : Fh.Rule), vs = [.ref ca, v, .ref dc] ∧ LI K H ca (natI W) ∧ W.length ≤ 900000 ∧ Dp K H v (encRule r) ∧
  H dc = some (.dK kvs) ∧ CsAt K H kvs R.classes ∧ (R.classes.map fun c => c.1).Nodup ∧ OkRu R r ∧ ∀ p H', Same H H' → LB K H' p (Sm.endsM R W r) → Q (.ref p) H'
theorem ok_places_before (T : Txt K mg) : FnOk P w K mg base CX0 4 T.f_places_before.a T.f_places_before.fd ["codes", "rule", "classes"] (sp_places_before K) := by
  refine T.f_places_before.F.ok sc_places_before (fun vs H Q E h => ?_) (fun cdv A outer s H vs Q E hr h => ⟨_, (pss_cons (ps_asg (pv 1) (gtK K (n := 5) rfl (pgs_cons (pg_name (i := 3) sc_places_before.nd rfl (Or.inl rfl)) (pgs_cons (pg_name (i := 4) sc_places_before.nd rfl (Or.inr rfl)) (pgs_cons (pg_name (i := 5) sc_places_before.nd rfl (Or.inl rfl)) (pgs_cons (pg_name (i := 6) sc_places_before.nd rfl (Or.inl rfl)) (pgs_cons (pg_name (i := 7) sc_places_before.nd rfl (Or.inl rfl)) pgs_nil)))))))
 (pss_cons (ps_setLc (i := 8) (own := [("at", 10)]) rfl sc_places_before.nd rfl rfl (sw_true rfl rfl rfl (by decide +kernel)) (pi_range1 rfl T.b_range (pa_cons (pe_op op_add (pe_callB (cr_len K) rfl T.b_len PySem.boot_len (pa_cons (pv 0) pa_nil)) pe_int) pa_nil)) (blkOk_by (own := [("at", 10)]) (N := ["codes", "rule", "classes", "is_cut", "wants_begin", "before", "behind", "wants_end", "found", "item", "at"]) (sc := defScope s_places_before) (by decide +kernel)) (fun _ _ _ _ _ => (pg_name (i := 10) sc_places_before.nd rfl (Or.inl rfl))) (fun _ _ _ _ _ => pts_nil) (fun _ _ _ _ _ => (pe_or (pe_cmpR op_eq (pv 10) pe_int (nomark _)) (pe_one (pe_not (pv 4))))))
 (pss_cons (ps_for PassesOwn.never rfl (piTK K (pv 5)) (pg_name (i := 9) sc_places_before.nd rfl (Or.inl rfl)) (pss_one (ps_set (i := 8) sc_places_before.nd rfl (Or.inl rfl) (pe_call (ok_past_item T) (hr.mono (by decide)) rfl T.f_past_item.g T.f_past_item.F.kp T.f_past_item.b .nil pass0 (pa_cons (pv 0) (pa_cons (pv 9) (pa_cons (pv 2) (pa_cons (pv 8) (pa_cons pe_bl pa_nil)))))))))
 (pss_one (ps_ret (pv 8)))))), ?_⟩)
  · obtain ⟨_, _, _, _, _, _, _, rfl, _⟩ := h; rfl
  · obtain ⟨ca, dc, v, kvs, R, W, r, rfl, hL, hWl, hD, hdc, hC, hnd, hok, k⟩ := h
    obtain ⟨rp, vb, vh, rfl, hrp, hvb, hvh⟩ := dp_rule hD
    obtain ⟨ba, bs, rfl, hbs, hbd⟩ := dp_tup hvb
    walk_at "u"
    refine u_gt hrp rfl ?_
    walk_at "u"
    refine u_lenL hL ?_
    walk_at "u"
    rw [map_int_len, natI_len]
    refine c_rng1 (n := ((W.length : Nat) : Int) + 1) (fun D j H' => H' D = some (.lst (((List.range j).map fun i => decide (i = 0) || !r.start).map V.bl)) ∧ Same H H') (by omega) (by omega) (fun D hD => ⟨upd_same, same_new hD⟩) ?_ ?_
    · rintro D j H' hD hj ⟨hu, s6⟩
      have fin : ∀ b, b = (decide (j = 0) || !r.start) → ∃ acc, H' D = some (.lst acc) ∧ acc.length < sizeLine ∧ (fun D j H' => H' D = some (.lst (((List.range j).map fun i => decide (i = 0) || !r.start).map V.bl)) ∧ Same H H') D (j + 1) (upd H' D (.lst (acc ++ [.bl b]))) := by
        rintro b rfl
        refine ⟨_, hu, size_less (by rw [List.length_map, List.length_map, List.length_range]; omega), ?_, same_mut s6 hD⟩
        rw [range_map_take, List.map_append]
        exact upd_same
      walk_at "u"
      refine ⟨rfl, ?_⟩
      walk_at "u"
      refine ite_d (fun h => ?_) (fun h => ?_)
      · exact fin _ (by rw [decide_eq_true (show j = 0 by omega), Bool.true_or])
      · walk_at "u"
        exact fin _ (by rw [decide_eq_false (show ¬ j = 0 by omega), Bool.false_or])
    · rintro D H1 hD ⟨hu, s1⟩
      have e : (((W.length : Nat) : Int) + 1).toNat = W.length + 1 := by omega
      rw [e] at hu
      have hst : LB K H1 D (Sm.startP W 0 (!r.start)) := Or.inl (Or.inl hu)
      walk_at "u"
      refine f_tup (K := K) (a := ba) (xs := bs) (fun i σ H' => ∃ (fa : Addr) (v9 : Option V), σ = [some (.ref ca), some (.ref rp), some (.ref dc), some (.bl r.cut), some (.bl r.start), some (.ref ba), some vh, some (.bl r.halt_), some (.ref fa), v9, none] ∧ Same H1 H' ∧
        LB K H' fa ((r.before.take i).foldl (fun P it => Sm.pastM R W it P false) (Sm.startP W 0 (!r.start)))) (same_t s1 hbs) ⟨D, none, rfl, Same.refl _, hst⟩ (fun i σ H' _ ⟨_, _, _, e, _⟩ => same_t (s1.trans e) hbs) ?_ ?_
      · rintro i x σ H' hx ⟨fa, v9, rfl, s2, hfa⟩
        have hi : i < r.before.length := by have := (List.getElem?_eq_some_iff.mp hx).1; rw [dps_len hbd, List.length_map] at this; exact this
        obtain ⟨v, hv, hd⟩ := dps_get hbd (i := i) (d := encI r.before[i]) (by rw [List.getElem?_map, List.getElem?_eq_getElem hi]; rfl)
        rw [hx] at hv
        cases hv
        have hm : r.before[i] ∈ r.before := List.getElem_mem hi
        have s3 := s1.trans s2
        have pl : ((r.before.take i).foldl (fun P it => Sm.pastM R W it P false) (Sm.startP W 0 (!r.start))).length = W.length + 1 := by
          rw [List.foldl_eq_foldr_reverse]
          exact (Sm.foldr_on Sm.startP_len _ (fun x hx => Sm.okA_size (hok.ok.1 x (List.mem_of_mem_take (List.mem_reverse.mp hx))).2)).1
        walk_at "u"
        refine ⟨ca, dc, fa, x, kvs, R, W, r.before[i], _, false, rfl, same_l s3 hL, hWl, dp_same s3 hd, s3 _ _ hdc, hC.kt (Kt.same s3), hnd, hok.ok.1 _ hm, hok.sb _ hm, hfa, pl, fun p H3 s4 hp => ?_⟩
        walk_at "u"
        refine ⟨p, _, rfl, s2.trans s4, ?_⟩
        rw [List.take_add_one, List.getElem?_eq_getElem hi, Option.toList_some, List.foldl_append]
        exact hp
      · rintro σ H' ⟨fa, v9, rfl, s2, hfa⟩
        have el : bs.length = r.before.length := by rw [dps_len hbd, List.length_map]
        rw [el, List.take_length] at hfa
        walk_at "u"
        exact k fa H' (s1.trans s2) hfa
def sp_places_behind (K : PySem.W.Frag) : Sp := fun vs H Q _ => ∃ (ca dc : Addr) (v : V) (kvs : List (Key × V)) (R : Fh.Rules) (W : List Nat) (r : Fh.Rule), vs = [.ref ca, v, .ref dc] ∧ LI K H ca (natI W) ∧ W.length ≤ 900000 ∧ Dp K H v (encRule r) ∧
  H dc = some (.dK kvs) ∧ CsAt K H kvs R.classes ∧ (R.classes.map fun c => c.1).Nodup ∧ OkRu R r ∧ ∀ p H', Same H H' → LB K H' p (Sm.beginsM R W r) → Q (.ref p) H'
theorem ok_places_behind (T : Txt K mg) : FnOk P w K mg base CX0 4 T.f_places_behind.a T.f_places_behind.fd ["codes", "rule", "classes"] (sp_places_behind K) := by
  refine T.f_places_behind.F.ok sc_places_behind (fun vs H Q E h => ?_) (fun cdv A outer s H vs Q E hr h => ⟨_, (pss_cons (ps_asg (pv 1) (gtK K (n := 5) rfl (pgs_cons (pg_name (i := 3) sc_places_behind.nd rfl (Or.inl rfl)) (pgs_cons (pg_name (i := 4) sc_places_behind.nd rfl (Or.inl rfl)) (pgs_cons (pg_name (i := 5) sc_places_behind.nd rfl (Or.inl rfl)) (pgs_cons (pg_name (i := 6) sc_places_behind.nd rfl (Or.inl rfl)) (pgs_cons (pg_name (i := 7) sc_places_behind.nd rfl (Or.inr rfl)) pgs_nil)))))))
 (pss_cons (ps_setLc (i := 8) (own := [("at", 10)]) rfl sc_places_behind.nd rfl rfl (sw_true rfl rfl rfl (by decide +kernel)) (pi_range1 rfl T.b_range (pa_cons (pe_op op_add (pe_callB (cr_len K) rfl T.b_len PySem.boot_len (pa_cons (pv 0) pa_nil)) pe_int) pa_nil)) (blkOk_by (own := [("at", 10)]) (N := ["codes", "rule", "classes", "is_cut", "wants_begin", "before", "behind", "wants_end", "found", "item", "at"]) (sc := defScope s_places_behind) (by decide +kernel)) (fun _ _ _ _ _ => (pg_name (i := 10) sc_places_behind.nd rfl (Or.inl rfl))) (fun _ _ _ _ _ => pts_nil) (fun _ _ _ _ _ => (pe_or (pe_cmpR op_eq (pv 10) (pe_callB (cr_len K) rfl T.b_len PySem.boot_len (pa_cons (pv 0) pa_nil)) (nomark _)) (pe_one (pe_not (pv 7))))))
 (pss_cons (ps_for PassesOwn.never rfl (piRK K rfl T.b_reversed (pv 6)) (pg_name (i := 9) sc_places_behind.nd rfl (Or.inl rfl)) (pss_one (ps_set (i := 8) sc_places_behind.nd rfl (Or.inl rfl) (pe_call (ok_past_item T) (hr.mono (by decide)) rfl T.f_past_item.g T.f_past_item.F.kp T.f_past_item.b .nil pass0 (pa_cons (pv 0) (pa_cons (pv 9) (pa_cons (pv 2) (pa_cons (pv 8) (pa_cons pe_bl pa_nil)))))))))
 (pss_one (ps_ret (pv 8)))))), ?_⟩)
  · obtain ⟨_, _, _, _, _, _, _, rfl, _⟩ := h; rfl
  · obtain ⟨ca, dc, v, kvs, R, W, r, rfl, hL, hWl, hD, hdc, hC, hnd, hok, k⟩ := h
    obtain ⟨rp, vb, vh, rfl, hrp, hvb, hvh⟩ := dp_rule hD
    obtain ⟨ba, bs, rfl, hbs, hbd⟩ := dp_tup hvh
    walk_at "u"
    refine u_gt hrp rfl ?_
    walk_at "u"
    refine u_lenL hL ?_
    walk_at "u"
    rw [map_int_len, natI_len]
    refine c_rng1 (n := ((W.length : Nat) : Int) + 1) (fun D j H' => H' D = some (.lst (((List.range j).map fun i => decide (i = W.length) || !r.halt_).map V.bl)) ∧ Same H H') (by omega) (by omega) (fun D hD => ⟨upd_same, same_new hD⟩) ?_ ?_
    · rintro D j H' hD hj ⟨hu, s6⟩
      have fin : ∀ b, b = (decide (j = W.length) || !r.halt_) → ∃ acc, H' D = some (.lst acc) ∧ acc.length < sizeLine ∧ (fun D j H' => H' D = some (.lst (((List.range j).map fun i => decide (i = W.length) || !r.halt_).map V.bl)) ∧ Same H H') D (j + 1) (upd H' D (.lst (acc ++ [.bl b]))) := by
        rintro b rfl
        refine ⟨_, hu, size_less (by rw [List.length_map, List.length_map, List.length_range]; omega), ?_, same_mut s6 hD⟩
        rw [range_map_take, List.map_append]
        exact upd_same
      walk_at "u"
      refine ⟨rfl, ?_⟩
      walk_at "u"
      refine u_lenL (same_l s6 hL) ?_
      walk_at "u"
      rw [map_int_len, natI_len]
      refine ite_d (fun h => ?_) (fun h => ?_)
      · exact fin _ (by rw [decide_eq_true (show j = W.length by omega), Bool.true_or])
      · walk_at "u"
        exact fin _ (by rw [decide_eq_false (show ¬ j = W.length by omega), Bool.false_or])
    · rintro D H1 hD ⟨hu, s1⟩
      have e : (((W.length : Nat) : Int) + 1).toNat = W.length + 1 := by omega
      rw [e] at hu
      have hst : LB K H1 D (Sm.startP W W.length (!r.halt_)) := Or.inl (Or.inl hu)
      have el : bs.length = r.behind.length := by rw [dps_len hbd, List.length_map]
      walk_at "u"
      refine u_iRev ?_
      walk_at "u"
      refine f_revT (K := K) (a := ba) (xs := bs) (fun i σ H' => ∃ (fa : Addr) (v9 : Option V), σ = [some (.ref ca), some (.ref rp), some (.ref dc), some (.bl r.cut), some (.bl r.start), some vb, some (.ref ba), some (.bl r.halt_), some (.ref fa), v9, none] ∧ Same H1 H' ∧
        LB K H' fa ((r.behind.drop (r.behind.length - i)).foldr (fun it P => Sm.pastM R W it P true) (Sm.startP W W.length (!r.halt_)))) (same_t s1 hbs) ⟨D, none, rfl, Same.refl _, by rw [Nat.sub_zero, List.drop_length]; exact hst⟩ (fun i σ H' _ ⟨_, _, _, e, _⟩ => same_t (s1.trans e) hbs) ?_ ?_
      · rintro i x σ H' hin hx ⟨fa, v9, rfl, s2, hfa⟩
        rw [el] at hx hin
        have hi : r.behind.length - 1 - i < r.behind.length := by omega
        obtain ⟨v, hv, hd⟩ := dps_get hbd (i := r.behind.length - 1 - i) (d := encI r.behind[r.behind.length - 1 - i]) (by rw [List.getElem?_map, List.getElem?_eq_getElem hi]; rfl)
        rw [hx] at hv
        cases hv
        have hm : r.behind[r.behind.length - 1 - i] ∈ r.behind := List.getElem_mem hi
        have s3 := s1.trans s2
        have pl : ((r.behind.drop (r.behind.length - i)).foldr (fun it P => Sm.pastM R W it P true) (Sm.startP W W.length (!r.halt_))).length = W.length + 1 :=
          (Sm.foldr_back Sm.startP_len _ (fun x hx => Sm.okA_size (hok.ok.2 x (List.mem_of_mem_drop hx)).2)).1
        walk_at "u"
        refine ⟨ca, dc, fa, x, kvs, R, W, r.behind[r.behind.length - 1 - i], _, true, rfl, same_l s3 hL, hWl, dp_same s3 hd, s3 _ _ hdc, hC.kt (Kt.same s3), hnd, hok.ok.2 _ hm, hok.sh _ hm, hfa, pl, fun p H3 s4 hp => ?_⟩
        walk_at "u"
        refine ⟨p, _, rfl, s2.trans s4, ?_⟩
        have e1 : r.behind.length - (i + 1) = r.behind.length - 1 - i := by omega
        have e2 : r.behind.length - i = r.behind.length - 1 - i + 1 := by omega
        rw [e1, List.drop_eq_getElem_cons hi, List.foldr_cons, ← e2]
        exact hp
      · rintro σ H' ⟨fa, v9, rfl, s2, hfa⟩
        rw [el, Nat.sub_self, List.drop_zero] at hfa
        walk_at "u"
        exact k fa H' (s1.trans s2) hfa
end
end Sr
namespace Sr
open PySem PySem.Spec PyProof.Rows L2
open Fh (Bytes)
theorem map_set_int (F : List Int) (j : Nat) (b : Int) : (F.map V.int).set j (.int b) = (F.set j b).map V.int := by rw [List.map_set]
theorem int_bl {G : List Int} {A : List Bool} (h : 0 < G.length) (e : G.map V.int = A.map V.bl) : False := by
  cases G with
  | nil => exact absurd h (by decide)
  | cons x G =>
    cases A with
    | nil => cases e
    | cons a A => exact nomatch (List.cons.inj e).1
section
variable {P : Program} {w : World} {K : PySem.W.Frag} {mg : Str → Option Value} {base : Heap}
def sp_deciding (K : PySem.W.Frag) : Sp := fun vs H Q _ => ∃ (ca : Addr) (v : V) (R : Fh.Rules) (W : List Nat), vs = [.ref ca, v] ∧ LI K H ca (natI W) ∧ W.length ≤ 900000 ∧ RuAt K H v R ∧ (∀ r ∈ R.rules, OkRu R r) ∧
  ∀ p H', Same H H' → LI K H' p ((List.range (W.length + 1)).map fun i => Sm.decI R W i) → Q (.ref p) H'
theorem ok_deciding (T : Txt K mg) : FnOk P w K mg base CX0 5 T.f_deciding.a T.f_deciding.fd ["codes", "ruling"] (sp_deciding K) := by
  refine T.f_deciding.F.ok sc_deciding (fun vs H Q E h => ?_) (fun cdv A outer s H vs Q E hr h => ⟨_, (pss_cons (ps_asg (pv 1) (gtK K (n := 2) rfl (pgs_cons (pg_name (i := 2) sc_deciding.nd rfl (Or.inl rfl)) (pgs_cons (pg_name (i := 3) sc_deciding.nd rfl (Or.inl rfl)) pgs_nil))))
 (pss_cons (ps_set (i := 4) sc_deciding.nd rfl (Or.inl rfl) (pe_op op_rep (pe_lst (pa_cons (pe_un un_neg pe_int) pa_nil)) (pe_op op_add (pe_callB (cr_len K) rfl T.b_len PySem.boot_len (pa_cons (pv 0) pa_nil)) pe_int)))
 (pss_cons (ps_for PassesOwn.never rfl (piEK K rfl T.b_enumerate (pa_cons (pv 3) pa_nil)) (gtK K (n := 2) rfl (pgs_cons (pg_name (i := 5) sc_deciding.nd rfl (Or.inl rfl)) (pgs_cons (pg_name (i := 6) sc_deciding.nd rfl (Or.inl rfl)) pgs_nil))) (pss_cons (ps_par (i := 7) (j := 8) (by rfl) sc_deciding.nd rfl rfl (by decide) rfl rfl (pa_cons (pe_call (ok_places_before T) (hr.mono (by decide)) rfl T.f_places_before.g T.f_places_before.F.kp T.f_places_before.b .nil pass0 (pa_cons (pv 0) (pa_cons (pv 6) (pa_cons (pv 2) pa_nil)))) (pa_cons (pe_call (ok_places_behind T) (hr.mono (by decide)) rfl T.f_places_behind.g T.f_places_behind.F.kp T.f_places_behind.b .nil pass0 (pa_cons (pv 0) (pa_cons (pv 6) (pa_cons (pv 2) pa_nil)))) pa_nil)) (by rfl))
 (pss_one (ps_for PassesOwn.never rfl (pi_range1 rfl T.b_range (pa_cons (pe_callB (cr_len K) rfl T.b_len PySem.boot_len (pa_cons (pv 4) pa_nil)) pa_nil)) (pg_name (i := 9) sc_deciding.nd rfl (Or.inl rfl)) (pss_one (ps_if (PW.pt (pw_and (pt_cmpR op_lt (pe_ix (ixLK K) (pv 4) (pv 9) (fun _ _ => rfl)) pe_int (nomark _)) (pw_and (pt_val (pe_ix (ixLK K) (pv 7) (pv 9) (fun _ _ => rfl))) (pw_and1 (pt_val (pe_ix (ixLK K) (pv 8) (pv 9) (fun _ _ => rfl))))))) (pss_one (ps_asg (pv 5) (pg_sub (pv 4) (pv 9) set_list))) pss_nil))))))
 (pss_one (ps_ret (pv 4)))))), ?_⟩)
  · obtain ⟨_, _, _, _, rfl, _⟩ := h; rfl
  · obtain ⟨ca, v, R, W, rfl, hL, hWl, ⟨rp, dc, kvs, fl, us, rfl, hrp, hdc, hC, hfl, hD, hnd⟩, hok, k⟩ := h
    walk_at "u"
    refine u_gt hrp rfl ?_
    walk_at "u"
    refine ⟨by show 1 ≤ sizeLine; decide, fun l0 hl0 => ?_⟩
    have s0 := same_new (o := .lst [.int (-1)]) hl0
    walk_at "u"
    refine u_lenL (same_l s0 hL) ?_
    walk_at "u"
    rw [map_int_len, natI_len]
    refine u_rep1 (n := W.length + 1) upd_same (by omega) (by omega) fun f hf => ?_
    have s1 := same_then (o := .lst (List.replicate (W.length + 1) (.int (-1)))) s0 hf
    have hf1 : upd (upd H l0 (.lst [.int (-1)])) f (.lst (List.replicate (W.length + 1) (.int (-1)))) f = some (.lst ((List.replicate (W.length + 1) (-1)).map V.int)) := by rw [List.map_replicate]; exact upd_same
    generalize upd (upd H l0 (.lst [.int (-1)])) f (.lst (List.replicate (W.length + 1) (.int (-1)))) = H1 at s1 hf1
    have hfH := none_of s0 hf
    clear s0 hf
    have el : us.length = R.rules.length := by rw [dps_len hD, List.length_map]
    walk_at "u"
    refine f_enum (K := K) (a := fl) (xs := us) (fun i σ H' => ∃ (v5 v6 v7 v8 v9 : Option V) (F : List Int), σ = [some (.ref ca), some (.ref rp), some (.ref dc), some (.ref fl), some (.ref f), v5, v6, v7, v8, v9] ∧ Same H H' ∧
      H' f = some (.lst (F.map V.int)) ∧ F.length = W.length + 1 ∧ ∀ j, j ≤ W.length → F[j]? = some (Sm.decT R (R.rules.take i) W j)) (same_l s1 hfl) ⟨none, none, none, none, none, _, rfl, s1, hf1, List.length_replicate, fun j hj => by rw [List.getElem?_replicate, if_pos (by omega)]; rfl⟩ (fun i σ H' _ ⟨_, _, _, _, _, _, _, e, _⟩ => same_l e hfl) ?_ ?_
    · rintro i x σ H2 t hx ⟨v5, v6, v7, v8, v9, F, rfl, s2, hf2, hFl, hF⟩ ht
      have hi : i < R.rules.length := by have := (List.getElem?_eq_some_iff.mp hx).1; rw [el] at this; exact this
      obtain ⟨v, hv, hd⟩ := dps_get hD (i := i) (d := encRule R.rules[i]) (by rw [List.getElem?_map, List.getElem?_eq_getElem hi]; rfl)
      rw [hx] at hv
      cases hv
      have hm : R.rules[i] ∈ R.rules := List.getElem_mem hi
      have etake : R.rules.take (i + 1) = R.rules.take i ++ [R.rules[i]] := by rw [List.take_add_one, List.getElem?_eq_getElem hi]; rfl
      have elen : (R.rules.take i).length = i := by rw [List.length_take]; omega
      rw [etake]
      generalize R.rules.take i = RT at hF elen
      generalize R.rules[i] = r at hd hm
      have okr := hok r hm
      have s3 := same_then (o := .tup [.int i, x]) s2 ht
      have hf3 : upd H2 t (.tup [.int i, x]) f = some (.lst (F.map V.int)) := (same_new ht) _ _ hf2
      refine u_gt (SqT.of upd_same) rfl ?_
      generalize upd H2 t (.tup [.int i, x]) = H3 at s3 hf3
      walk_at "u"
      refine ⟨ca, dc, x, kvs, R, W, r, rfl, same_l s3 hL, hWl, dp_same s3 hd, s3 _ _ hdc, hC.kt (Kt.same s3), hnd, okr, fun ea H4 s4 hea => ?_⟩
      have s34 := s3.trans s4
      walk_at "u"
      refine ⟨ca, dc, x, kvs, R, W, r, rfl, same_l s34 hL, hWl, dp_same s34 hd, s34 _ _ hdc, hC.kt (Kt.same s34), hnd, okr, fun ba H5 s5 hba => ?_⟩
      have s35 := s34.trans s5
      have hea5 := same_l s5 hea
      have hf5 := s5 _ _ (s4 _ _ hf3)
      have okR := Sm.okRl_okR okr.ok
      have le := Sm.ends_len (R := R) (W := W) okR
      have lb := Sm.begins_len (R := R) (W := W) okR
      walk_at "u"
      refine u_lenL (Or.inl (Or.inl hf5)) ?_
      walk_at "u"
      rw [map_int_len, hFl]
      refine f_rng1 (n := ((W.length + 1 : Nat) : Int)) (fun m σ H' => ∃ (v9 : Option V) (G : List Int), σ = [some (.ref ca), some (.ref rp), some (.ref dc), some (.ref fl), some (.ref f), some (.int i), some x, some (.ref ea), some (.ref ba), v9] ∧ Same H H' ∧ LB K H' ea (Sm.endsM R W r) ∧ LB K H' ba (Sm.beginsM R W r) ∧
        H' f = some (.lst (G.map V.int)) ∧ G.length = W.length + 1 ∧ ∀ j, j ≤ W.length → G[j]? = some (if j < m then Sm.decT R (RT ++ [r]) W j else Sm.decT R RT W j)) (by omega) (by omega)
        ⟨_, F, rfl, s35, hea5, hba, hf5, hFl, fun j hj => by rw [if_neg (by omega)]; exact hF j hj⟩ ?_ ?_
      · rintro m σ H6 hm6 ⟨v9, G, rfl, s6, hea6, hba6, hf6, hGl, hG⟩
        have hmW : m ≤ W.length := by omega
        have hGm := hG m hmW
        rw [if_neg (by omega)] at hGm
        have ge1 := Sm.decT_ge R RT W m
        have sn := Sm.decT_snoc R RT r W m
        rw [elen] at sn
        have hfit : Sm.fitsW R W m r = (Sm.getB (Sm.endsM R W r) m && Sm.getB (Sm.beginsM R W r) m) := Sm.fits_eq okR hmW
        refine u_gn ?_
        have stay : (¬ (Sm.decT R RT W m < 0 ∧ Sm.fitsW R W m r = true)) → ∃ (v9 : Option V) (G : List Int), [some (.ref ca), some (.ref rp), some (.ref dc), some (.ref fl), some (.ref f), some (.int i), some x, some (.ref ea), some (.ref ba), some (.int m)] = [some (.ref ca), some (.ref rp), some (.ref dc), some (.ref fl), some (.ref f), some (.int i), some x, some (.ref ea), some (.ref ba), v9] ∧ Same H H6 ∧ LB K H6 ea (Sm.endsM R W r) ∧ LB K H6 ba (Sm.beginsM R W r) ∧
            H6 f = some (.lst (G.map V.int)) ∧ G.length = W.length + 1 ∧ ∀ j, j ≤ W.length → G[j]? = some (if j < m + 1 then Sm.decT R (RT ++ [r]) W j else Sm.decT R RT W j) := by
          intro z
          rw [if_neg z] at sn
          refine ⟨_, G, rfl, s6, hea6, hba6, hf6, hGl, fun j hj => ?_⟩
          rw [hG j hj]
          by_cases c : j = m
          · subst c
            rw [if_neg (by omega), if_pos (by omega), sn]
          · by_cases d : j < m
            · rw [if_pos d, if_pos (by omega)]
            · rw [if_neg d, if_neg (by omega)]
        walk_at "u"
        refine u_ixL (Or.inl (Or.inl hf6)) (at_int rfl hGm) ?_
        walk_at "u"
        refine ite_d (fun h1 => ?_) (fun h1 => ?_)
        · walk_at "u"
          refine u_ixL hea6 (at_bl rfl (getB_at (by rw [le]; omega))) ?_
          walk_at "u"
          refine ite_b (fun h2 => ?_) (fun h2 => ?_)
          · walk_at "u"
            refine u_ixL hba6 (at_bl rfl (getB_at (by rw [lb]; omega))) ?_
            walk_at "u"
            refine ite_b (fun h3 => ?_) (fun h3 => ?_)
            · have hfr : Sm.fitsW R W m r = true := by rw [hfit, h2, h3]; rfl
              rw [if_pos ⟨h1, hfr⟩] at sn
              walk_at "u"
              refine u_gsub ?_
              walk_at "u"
              refine u_setL (j := m) rfl hf6 (by rw [map_int_len]; omega) ?_
              rw [map_set_int]
              have k6 : ∀ a (A : List Bool), LB K H6 a A → LB K (upd H6 f (.lst ((G.set m (i : Int)).map V.int))) a A := fun a A hA => by
                rcases hA with hA | hA
                · rcases hA with hA | ⟨o, hA⟩
                  · have na : a ≠ f := fun z => by
                      rw [z, hf6] at hA
                      exact int_bl (by omega) (HO.lst.inj (Option.some.inj hA))
                    exact Or.inl (Or.inl ((upd_ne na).trans hA))
                  · exact Or.inl (Or.inr ⟨o, (upd_ne (fun z => by rw [z, hf6] at hA; cases hA)).trans hA⟩)
                · exact Or.inr hA
              refine ⟨_, G.set m (i : Int), rfl, same_mut s6 hfH, k6 _ _ hea6, k6 _ _ hba6, upd_same, by rw [List.length_set]; exact hGl, fun j hj => ?_⟩
              rw [List.getElem?_set]
              by_cases c : m = j
              · subst c
                rw [if_pos rfl, if_pos (by omega), if_pos (by omega), sn]
              · rw [if_neg c, hG j hj]
                by_cases d : j < m
                · rw [if_pos d, if_pos (by omega)]
                · rw [if_neg d, if_neg (by omega)]
            · walk_at "u"
              exact stay fun z => by rw [hfit, h2, h3] at z; exact absurd z.2 (by decide)
          · walk_at "u"
            exact stay fun z => by rw [hfit, h2] at z; exact absurd z.2 (by rw [Bool.false_and]; decide)
        · walk_at "u"
          exact stay fun z => h1 z.1
      · rintro σ H6 ⟨v9, G, rfl, s6, hea6, hba6, hf6, hGl, hG⟩
        refine ⟨_, _, _, _, _, G, rfl, s6, hf6, hGl, fun j hj => ?_⟩
        rw [hG j hj, if_pos (by omega)]
    · rintro σ H2 ⟨v5, v6, v7, v8, v9, F, rfl, s2, hf2, hFl, hF⟩
      rw [el, List.take_length] at hF
      walk_at "u"
      refine k f H2 s2 ?_
      have e : F = (List.range (W.length + 1)).map fun i => Sm.decI R W i := by
        apply List.ext_getElem?
        intro j
        rw [List.getElem?_map]
        by_cases h : j ≤ W.length
        · rw [hF j h, List.getElem?_range (by omega)]; rfl
        · rw [List.getElem?_eq_none (by omega), List.getElem?_eq_none (by rw [List.length_range]; omega)]; rfl
      rw [← e]
      exact Or.inl (Or.inl hf2)
end
end Sr
namespace Sr
open PySem PySem.Spec PyProof.Rows L2
open Fh (Bytes)
def encP : Fh.Piece → PyData
  | .char c => .tuple [.int 0, .int c]
  | .open_ n => .tuple [.int 1, .int n]
  | .close n => .tuple [.int 2, .int n]
  | .alone n => .tuple [.int 3, .int n]
theorem tupD_P (p : Fh.Piece) : tupD (encP p) = true := by cases p <;> rfl
/-- a piece's kind, its number -/
def kindP : Fh.Piece → Int
  | .char _ => 0
  | .open_ _ => 1
  | .close _ => 2
  | .alone _ => 3
def numP : Fh.Piece → Nat
  | .char c => c
  | .open_ n => n
  | .close n => n
  | .alone n => n
theorem encP_eq (p : Fh.Piece) : encP p = .tuple [.int (kindP p), .int (numP p : Nat)] := by cases p <;> rfl
theorem dp_piece {K : PySem.W.Frag} {H : Hp} {v : V} {p : Fh.Piece} (h : Dp K H v (encP p)) : ∃ a, v = .ref a ∧ SqT K H a [.int (kindP p), .int (numP p : Nat)] := by
  rw [encP_eq] at h
  exact dp_pair h
theorem piece_dp {K : PySem.W.Frag} {H : Hp} {a : Addr} {p : Fh.Piece} (h : SqT K H a [.int (kindP p), .int (numP p : Nat)]) : Dp K H (.ref a) (encP p) := by
  rw [encP_eq]
  exact dp_mk2 h
theorem kinds_tag {s : UInt8} (n : Nat) (h : s.toNat = 43 ∨ s.toNat = 45 ∨ s.toNat = 46) : ([(43, 1), (45, 2), (46, 3)] : List (Int × Int)).lookup (s.toNat : Int) = some (kindP (Fh.tagOf s n)) ∧ numP (Fh.tagOf s n) = n := by
  unfold Fh.tagOf
  rcases h with h | h | h
  · have e : s = 43 := UInt8.toNat_inj.mp h
    subst e; exact ⟨rfl, rfl⟩
  · have e : s = 45 := UInt8.toNat_inj.mp h
    subst e; exact ⟨rfl, rfl⟩
  · have e : s = 46 := UInt8.toNat_inj.mp h
    subst e; exact ⟨rfl, rfl⟩
theorem kinds_none {s : UInt8} (h : ¬ (s.toNat = 43 ∨ s.toNat = 45 ∨ s.toNat = 46)) : ([(43, 1), (45, 2), (46, 3)] : List (Int × Int)).lookup (s.toNat : Int) = none := by
  have e1 : ((s.toNat : Int) == 43) = false := by rw [beq_eq_false_iff_ne]; omega
  have e2 : ((s.toNat : Int) == 45) = false := by rw [beq_eq_false_iff_ne]; omega
  have e3 : ((s.toNat : Int) == 46) = false := by rw [beq_eq_false_iff_ne]; omega
  simp only [List.lookup, e1, e2, e3]
section
variable {P : Program} {w : World} {K : PySem.W.Frag} {mg : Str → Option Value} {base : Heap}
def sp_tag_at (K : PySem.W.Frag) : Sp := fun vs H Q _ => ∃ (a : Addr) (b : Bytes) (i e : Nat), vs = [.ref a, .int i, .int e] ∧ LI K H a (bI b) ∧ i ≤ e ∧ e ≤ b.length ∧ b.length ≤ 900000 ∧
  (∀ k, Sm.tagM (cutB b i e) = .error k → ∀ p H', Same H H' → H' p = some (.tup [.non, .int ((i + k : Nat) : Int)]) → Q (.ref p) H') ∧
  ∀ x, Sm.tagM (cutB b i e) = .ok x → ∀ p v H', Same H H' → H' p = some (.tup [v, .int ((i + x.2 : Nat) : Int)]) → Dp K H' v (encP x.1) → Q (.ref p) H'
theorem ok_tag_at (T : Txt K mg) : FnOk P w K mg base CX0 1 T.f_tag_at.a T.f_tag_at.fd ["octets", "at", "end"] (sp_tag_at K) := by
  refine T.f_tag_at.F.ok sc_tag_at (fun vs H Q E h => ?_) (fun cdv A outer s H vs Q E hr h => ⟨_, (pss_cons (ps_if (PW.pt (pw_or (pt_cmpR op_eq (pv 1) (pv 2) (nomark _)) (pw_or1 (pt_cmpR (ninDI K) (pe_ix (ixLK K) (pv 0) (pv 1) (fun _ _ => rfl)) (pe_gr T.c_KINDS) (by rfl))))) (pss_one (ps_ret (pe_tup (pa_cons pe_non (pa_cons (pv 1) pa_nil))))) pss_nil)
 (pss_cons (ps_par (i := 3) (j := 4) (by rfl) sc_tag_at.nd rfl rfl (by decide) rfl rfl (pa_cons pe_int (pa_cons (pe_op op_add (pv 1) pe_int) pa_nil)) (by rfl))
 (pss_cons (ps_for PassesOwn.never rfl (pi_range1 rfl T.b_range (pa_cons pe_int pa_nil)) (pg_name (i := 5) sc_tag_at.nd rfl (Or.inl rfl)) (pss_one (ps_if (PW.pt (pw_and (pt_cmpR op_lt (pv 4) (pv 2) (nomark _)) (pw_and1 (pt_chain op_le op_le (pe_op op_add pe_int (pe_callTy cr_int1 rfl T.b_int (by decide +kernel) (pa_cons (pe_cmpR op_eq (pv 3) pe_int (nomark _)) pa_nil))) (pe_ix (ixLK K) (pv 0) (pv 4) (fun _ _ => rfl)) pe_int)))) (pss_cons (ps_set (i := 3) sc_tag_at.nd rfl (Or.inl rfl) (pe_op op_sub (pe_op op_add (pe_op op_mul (pv 3) pe_int) (pe_ix (ixLK K) (pv 0) (pv 4) (fun _ _ => rfl))) pe_int))
 (pss_one (ps_set (i := 4) sc_tag_at.nd rfl (Or.inl rfl) (pe_op op_add (pv 4) pe_int)))) pss_nil)))
 (pss_cons (ps_if (PW.pt (pw_or (pt_cmpR op_eq (pv 3) pe_int (nomark _)) (pw_or (pt_cmpR op_eq (pv 4) (pv 2) (nomark _)) (pw_or1 (pt_cmpR op_ne (pe_ix (ixLK K) (pv 0) (pv 4) (fun _ _ => rfl)) (pe_gi T.c_CURLY_END) (nomark _)))))) (pss_one (ps_ret (pe_tup (pa_cons pe_non (pa_cons (pv 4) pa_nil))))) pss_nil)
 (pss_one (ps_ret (pe_tup (pa_cons (pe_tup (pa_cons (pe_ix (ixDI K) (pe_gr T.c_KINDS) (pe_ix (ixLK K) (pv 0) (pv 1) (fun _ _ => rfl)) (fun _ _ => rfl)) (pa_cons (pv 3) pa_nil))) (pa_cons (pe_op op_add (pv 4) pe_int) pa_nil))))))))), ?_⟩)
  · obtain ⟨_, _, _, _, rfl, _⟩ := h; rfl
  · obtain ⟨a, b, i, e, rfl, hL, hi, he, hbl, kE, kO⟩ := h
    have fail : ∀ (σ : L2.St) (n k : Nat) (H1 : Hp), Same H H1 → σ[1]? = some (some (.int (n : Int))) → Sm.tagM (cutB b i e) = .error k → n = i + k → tRet (tTup (tCons (tC .non) (tCons (tVar 1) tNil))) { nx := fun _ H' => Q .non H', rt := Q } σ H1 := by
      intro σ n k H1 s1 hσ hk hn
      subst hn
      walk_at "u"
      refine u_var hσ ?_
      walk_at "u"
      exact ⟨by show 2 ≤ sizeLine; decide, fun p hp => kE k hk p _ (same_then s1 hp) upd_same⟩
    walk_at "u"
    refine ite_d (fun h1 => ?_) (fun h1 => ?_)
    · walk_at "u"
      refine ⟨by show 2 ≤ sizeLine; decide, fun p hp => kE 0 (by rw [cutB_nil (by omega)]; rfl) p _ (same_new hp) upd_same⟩
    have hlt : i < e := by omega
    obtain ⟨s, hs, hcut⟩ := cutB_cons hlt he
    rw [hcut] at kE kO
    have hr : (cutB b (i + 1) e).length = e - (i + 1) := cutB_len he
    have hg : ∀ j, i + 1 + j < e → (cutB b (i + 1) e)[j]? = b[i + 1 + j]? := fun j hj => cutB_get hj
    clear fail
    walk_at "u"
    refine u_ixL hL (at_int (j := i) rfl (bI_at hs)) ?_
    walk_at "u"
    refine u_ninDI T.d_KINDS ?_
    walk_at "u"
    by_cases c : s.toNat = 43 ∨ s.toNat = 45 ∨ s.toNat = 46
    · have kt := fun n => kinds_tag (s := s) n c
      rw [(kt 0).1]
      refine ite_f ?_
      rw [Sm.tagM, if_pos c] at kE kO
      generalize cutB b (i + 1) e = d at hcut kE kO hr hg
      walk_at "u"
      generalize hR : Sm.digs 3 0 0 d = R at kE kO
      refine f_rng1 (n := 3) (fun m σ H' => ∃ (v n : Nat) (v5 : Option V), σ = [some (.ref a), some (.int i), some (.int e), some (.int v), some (.int ((i + 1 + n : Nat) : Int)), v5] ∧ H' = H ∧ n ≤ m ∧ i + 1 + n ≤ e ∧ v < 10 ^ n ∧ Sm.digs (3 - m) v n (d.drop n) = R) (by decide) (by decide)
        ⟨0, 0, none, rfl, rfl, Nat.le_refl _, by omega, by decide, hR⟩ ?_ ?_
      · rintro m σ H' hm ⟨v, n, v5, rfl, rfl, hnm, hne, hv, hD⟩
        have hm3 : m < 3 := by omega
        obtain ⟨t, ht⟩ : ∃ t, 3 - m = t + 1 := ⟨3 - m - 1, by omega⟩
        have ht2 : 3 - (m + 1) = t := by omega
        rw [ht, Sm.digs] at hD
        rw [ht2]
        have hd2 : ¬ ((i + 1 + n : Nat) : Int) < (e : Int) → d.length ≤ n := fun z => by omega
        have stay : ¬ (48 + (if v = 0 then (1 : Int) else 0) ≤ Sm.headI (d.drop n) ∧ Sm.headI (d.drop n) ≤ 57) → ∃ (v' n' : Nat) (v5 : Option V), [some (.ref a), some (.int i), some (.int e), some (.int v), some (.int ((i + 1 + n : Nat) : Int)), some (.int m)] = [some (.ref a), some (.int i), some (.int e), some (.int v'), some (.int ((i + 1 + n' : Nat) : Int)), v5] ∧ H' = H' ∧ n' ≤ m + 1 ∧ i + 1 + n' ≤ e ∧ v' < 10 ^ n' ∧ Sm.digs t v' n' (d.drop n') = R := by
          intro z
          rw [if_neg z] at hD
          exact ⟨v, n, _, rfl, rfl, by omega, hne, hv, hD⟩
        refine u_gn ?_
        walk_at "u"
        refine ite_d (fun h2 => ?_) (fun h2 => ?_)
        · have hn : n < d.length := by omega
          obtain ⟨cc, hcc, hh, hdr⟩ := hd_some hn
          have hh2 : Sm.headI (d.drop n) = cc.toNat := hh
          have hbc : b[i + 1 + n]? = some cc := by rw [← hg n (by omega)]; exact hcc
          have hcb := Sm.byte_lt cc
          rw [hh2] at hD stay
          walk_at "u"
          refine u_intB ?_
          walk_at "u"
          refine u_ixL hL (at_int rfl (bI_at hbc)) ?_
          walk_at "u"
          have e0 : (if decide ((v : Int) = 0) = true then (1 : Int) else 0) = if v = 0 then 1 else 0 := by
            by_cases q : v = 0
            · rw [if_pos q, if_pos (decide_eq_true (by omega))]
            · rw [if_neg q, if_neg (by rw [decide_eq_false (by omega)]; decide)]
          rw [e0]
          refine ite_d (fun h3 => ?_) (fun h3 => ?_)
          · walk_at "u"
            refine ite_d (fun h4 => ?_) (fun h4 => ?_)
            · rw [if_pos ⟨h3, h4⟩, Int.toNat_natCast] at hD
              have h48 : 48 ≤ cc.toNat := by
                by_cases q : v = 0
                · rw [if_pos q] at h3; omega
                · rw [if_neg q] at h3; omega
              walk_at "u"
              have hvb : (v : Int) < 1000 := by
                have : v < 10 ^ 3 := Nat.lt_of_lt_of_le hv (Nat.pow_le_pow_right (by decide) (by omega))
                omega
              refine u_I (Or.inr ⟨by decide, by decide⟩) ?_
              walk_at "u"
              refine u_ixL hL (at_int rfl (bI_at hbc)) ?_
              walk_at "u"
              refine ⟨v * 10 + cc.toNat - 48, n + 1, some (.int m), ?_, rfl, by omega, by omega, by rw [Nat.pow_succ]; omega, ?_⟩
              · have q1 : (v : Int) * 10 + (cc.toNat : Int) - 48 = ((v * 10 + cc.toNat - 48 : Nat) : Int) := by omega
                have q2 : ((i + 1 + n : Nat) : Int) + 1 = ((i + 1 + (n + 1) : Nat) : Int) := by omega
                show [_, _, _, some (V.int ((v : Int) * 10 + (cc.toNat : Int) - 48)), some (V.int (((i + 1 + n : Nat) : Int) + 1)), _] = _
                rw [q1, q2]
              · rw [List.drop_drop] at hD
                exact hD
            · walk_at "u"
              exact stay fun z => h4 z.2
          · walk_at "u"
            exact stay fun z => h3 z.1
        · walk_at "u"
          refine stay fun z => ?_
          rw [List.drop_eq_nil_of_le (hd2 h2)] at z
          clear stay
          have z1 : 48 + (if v = 0 then (1 : Int) else 0) ≤ -1 := z.1
          by_cases q : v = 0
          · rw [if_pos q] at z1; omega
          · rw [if_neg q] at z1; omega
      · rintro σ H' ⟨v, n, v5, rfl, rfl, hnm, hne, hv, hD⟩
        have hD2 : (v, n) = R := hD
        subst hD2
        unfold Sm.tagEnd at kE kO
        refine u_seq (u_if ?_)
        refine tt_cut (decide (v = 0 ∨ Sm.headI (d.drop n) ≠ 125)) (fun QT q => ?_) (fun H3 s3 => ?_)
        · walk_at "u"
          refine ite_d (fun h2 => ?_) (fun h2 => ?_)
          · exact q _ _ (Same.refl _) (decide_eq_true (Or.inl (by omega))).symm
          · walk_at "u"
            refine ite_d (fun h3 => ?_) (fun h3 => ?_)
            · refine q _ _ (Same.refl _) (decide_eq_true (Or.inr ?_)).symm
              rw [List.drop_eq_nil_of_le (show d.length ≤ n by omega)]
              decide
            · obtain ⟨cc, hcc, hh, hdr⟩ := hd_some (b := d) (i := n) (by omega)
              have hh2 : Sm.headI (d.drop n) = cc.toNat := hh
              have hbc : b[i + 1 + n]? = some cc := by rw [← hg n (by omega)]; exact hcc
              walk_at "u"
              refine u_ixL hL (at_int rfl (bI_at hbc)) ?_
              walk_at "u"
              refine q _ _ (Same.refl _) (decide_eq_decide.mpr ?_)
              rw [hh2]
              exact ⟨fun z => Or.inr z, fun z => z.elim (fun z => absurd (by omega) h2) id⟩
        · refine ite_d (fun hc => ?_) (fun hc => ?_)
          · rw [if_pos hc] at kE
            walk_at "u"
            refine ⟨by show 2 ≤ sizeLine; decide, fun p hp => kE (n + 1) rfl p _ (same_then s3 hp) ?_⟩
            have q2 : ((i + 1 + n : Nat) : Int) = ((i + (n + 1) : Nat) : Int) := by omega
            rw [← q2]
            exact upd_same
          · rw [if_neg hc] at kO
            walk_at "u"
            refine u_ixL (same_l s3 hL) (at_int (j := i) rfl (bI_at hs)) ?_
            refine u_ixDI T.d_KINDS (kt v).1 ?_
            walk_at "u"
            refine ⟨by show 2 ≤ sizeLine; decide, fun q hq => ?_⟩
            have s4 := same_then (o := .tup [.int (kindP (Fh.tagOf s v)), .int (v : Nat)]) s3 hq
            walk_at "u"
            refine ⟨by show 2 ≤ sizeLine; decide, fun p hp => ?_⟩
            have hqp : q ≠ p := fun z => by rw [← z, upd_same] at hp; cases hp
            refine kO (Fh.tagOf s v, n + 2) rfl p (.ref q) _ (same_then s4 hp) ?_ (piece_dp (SqT.of ?_))
            · have q2 : ((i + 1 + n : Nat) : Int) + 1 = ((i + (n + 2) : Nat) : Int) := by omega
              rw [← q2]
              exact upd_same
            · rw [(kt v).2]
              exact (upd_ne hqp).trans upd_same
    · rw [kinds_none c]
      refine ite_t ?_
      rw [Sm.tagM, if_neg c] at kE
      walk_at "u"
      exact ⟨by show 2 ≤ sizeLine; decide, fun p hp => kE 0 rfl p _ (same_new hp) upd_same⟩
end
end Sr
namespace Sr
open PySem PySem.Spec PyProof.Rows L2
open Fh (Bytes)
section
variable {P : Program} {w : World} {K : PySem.W.Frag} {mg : Str → Option Value} {base : Heap}
def sp_piece_at (K : PySem.W.Frag) : Sp := fun vs H Q _ => ∃ (a : Addr) (b : Bytes) (i e : Nat), vs = [.ref a, .int i, .int e] ∧ LI K H a (bI b) ∧ i < e ∧ e ≤ b.length ∧ b.length ≤ 900000 ∧
  (∀ k, Fh.pieceHere (cutB b i e) = .error k → ∀ p H', Same H H' → SqT K H' p [.non, .int ((i + k : Nat) : Int)] → Q (.ref p) H') ∧
  ∀ x, Fh.pieceHere (cutB b i e) = .ok x → ∀ p v H', Same H H' → SqT K H' p [v, .int ((i + x.2 : Nat) : Int)] → Dp K H' v (encP x.1) → Q (.ref p) H'
theorem ok_piece_at (T : Txt K mg) : FnOk P w K mg base CX0 3 T.f_piece_at.a T.f_piece_at.fd ["octets", "at", "end"] (sp_piece_at K) := by
  refine T.f_piece_at.F.ok sc_piece_at (fun vs H Q E h => ?_) (fun cdv A outer s H vs Q E hr h => ⟨_, (pss_cons (ps_if (pt_cmpR op_eq (pe_ix (ixLK K) (pv 0) (pv 1) (fun _ _ => rfl)) (pe_gi T.c_CURLY) (nomark _)) (pss_cons (ps_if (PW.pt (pw_and (pt_cmpR op_lt (pe_op op_add (pv 1) pe_int) (pv 2) (nomark _)) (pw_and1 (pt_cmpR op_eq (pe_ix (ixLK K) (pv 0) (pe_op op_add (pv 1) pe_int) (fun _ _ => rfl)) (pe_gi T.c_CURLY) (nomark _))))) (pss_one (ps_ret (pe_tup (pa_cons (pe_tup (pa_cons (pe_gi T.c_CHARACTER) (pa_cons (pe_gi T.c_CURLY) pa_nil))) (pa_cons (pe_op op_add (pv 1) pe_int) pa_nil))))) pss_nil)
 (pss_one (ps_ret (pe_call (ok_tag_at T) (hr.mono (by decide)) rfl T.f_tag_at.g T.f_tag_at.F.kp T.f_tag_at.b .nil pass0 (pa_cons (pv 0) (pa_cons (pe_op op_add (pv 1) pe_int) (pa_cons (pv 2) pa_nil))))))) pss_nil)
 (pss_cons (ps_asg (pe_call (ok_character_at T) (hr.mono (by decide)) rfl T.f_character_at.g T.f_character_at.F.kp T.f_character_at.b .nil pass0 (pa_cons (pv 0) (pa_cons (pv 1) (pa_cons (pv 2) pa_nil)))) (gtK K (n := 2) rfl (pgs_cons (pg_name (i := 3) sc_piece_at.nd rfl (Or.inl rfl)) (pgs_cons (pg_name (i := 4) sc_piece_at.nd rfl (Or.inl rfl)) pgs_nil))))
 (pss_one (ps_ret (pe_tup (pa_cons (pe_ifExp (pt_cmpR op_lt (pv 3) pe_int (nomark _)) pe_non (pe_tup (pa_cons (pe_gi T.c_CHARACTER) (pa_cons (pv 3) pa_nil)))) (pa_cons (pv 4) pa_nil))))))), ?_⟩)
  · obtain ⟨_, _, _, _, rfl, _⟩ := h; rfl
  · obtain ⟨a, b, i, e, rfl, hL, hi, he, hbl, kE, kO⟩ := h
    rw [Sm.pieceM_eq] at kE kO
    obtain ⟨c, hc, hcut⟩ := cutB_cons hi he
    have hcb := Sm.byte_lt c
    walk_at "u"
    refine u_ixL hL (at_int (j := i) rfl (bI_at hc)) ?_
    walk_at "u"
    refine ite_d (fun h1 => ?_) (fun h1 => ?_)
    · rw [hcut, Sm.pieceM, if_pos (by omega)] at kE kO
      refine u_seq (u_seq (u_if ?_))
      refine tt_cut (decide (Sm.headI (cutB b (i + 1) e) = 123)) (fun QT q => ?_) (fun H3 s3 => ?_)
      · walk_at "u"
        refine ite_d (fun h2 => ?_) (fun h2 => ?_)
        · obtain ⟨c2, hc2, hcut2⟩ := cutB_cons (b := b) (i := i + 1) (e := e) (by omega) he
          walk_at "u"
          refine u_ixL hL (at_int (j := i + 1) (by omega) (bI_at hc2)) ?_
          walk_at "u"
          refine q _ _ (Same.refl _) ?_
          rw [hcut2]
          exact decide_eq_decide.mpr Iff.rfl
        · refine q _ _ (Same.refl _) (decide_eq_false ?_).symm
          rw [cutB_nil (by omega)]
          decide
      · refine ite_d (fun h2 => ?_) (fun h2 => ?_)
        · rw [if_pos h2] at kO
          walk_at "u"
          refine ⟨by show 2 ≤ sizeLine; decide, fun q hq => ?_⟩
          walk_at "u"
          refine ⟨by show 2 ≤ sizeLine; decide, fun p hp => ?_⟩
          have hqp : q ≠ p := fun z => by rw [← z, upd_same] at hp; cases hp
          refine kO (.char 123, 2) rfl p (.ref q) _ (same_then (same_then s3 hq) hp) (SqT.of ?_) (piece_dp (SqT.of ?_))
          · have q2 : (i : Int) + 2 = ((i + 2 : Nat) : Int) := by omega
            rw [← q2]
            exact upd_same
          · exact (upd_ne hqp).trans upd_same
        · rw [if_neg h2] at kE kO
          walk_at "u"
          have e1 : (i : Int) + 1 = ((i + 1 : Nat) : Int) := by omega
          rw [e1]
          refine ⟨a, b, i + 1, e, rfl, same_l s3 hL, by omega, he, hbl, fun k hk p H4 s4 hp => ?_, fun x hx p v H4 s4 hp hv => ?_⟩
          · rw [hk] at kE
            have q2 : i + 1 + k = i + (k + 1) := by omega
            rw [q2] at hp
            exact kE (k + 1) rfl p H4 (s3.trans s4) (SqT.of hp)
          · rw [hx] at kO
            have q2 : i + 1 + x.2 = i + (x.2 + 1) := by omega
            rw [q2] at hp
            exact kO (x.1, x.2 + 1) rfl p v H4 (s3.trans s4) (SqT.of hp) hv
    · have hpm : Sm.pieceM (cutB b i e) = match Fh.charHere (cutB b i e) with | .ok x => .ok (.char x.1, x.2) | .error k => .error k := by
        rw [hcut, Sm.pieceM, if_neg (by omega)]
        all_goals rfl
      rw [hpm] at kE kO
      walk_at "u"
      refine ⟨a, b, i, e, rfl, hL, by omega, he, by omega, fun p H1 z s1 hz hp => ?_⟩
      rw [Sm.charM_eq] at hz
      walk_at "u"
      refine u_gt (SqT.of hp) rfl ?_
      walk_at "u"
      cases hch : Fh.charHere (cutB b i e) with
      | error k =>
        rw [hch] at hz kE
        have hz1 : z.1 = -1 ∧ z.2 = ((i + k : Nat) : Int) := by rw [hz]; exact ⟨rfl, rfl⟩
        rw [hz1.1, hz1.2]
        refine ite_d (fun _ => ?_) (fun h5 => absurd (show (-1 : Int) < 0 by decide) h5)
        walk_at "u"
        exact ⟨by show 2 ≤ sizeLine; decide, fun p hp => kE k rfl p _ (same_then s1 hp) (SqT.of upd_same)⟩
      | ok y =>
        rw [hch] at hz kO
        have hz1 : z.1 = (y.1 : Int) ∧ z.2 = ((i + y.2 : Nat) : Int) := by rw [hz]; exact ⟨rfl, rfl⟩
        rw [hz1.1, hz1.2]
        refine ite_d (fun h5 => absurd h5 (by omega)) (fun _ => ?_)
        walk_at "u"
        refine ⟨by show 2 ≤ sizeLine; decide, fun q hq => ?_⟩
        walk_at "u"
        refine ⟨by show 2 ≤ sizeLine; decide, fun p hp => ?_⟩
        have hqp : q ≠ p := fun z => by rw [← z, upd_same] at hp; cases hp
        exact kO (.char y.1, y.2) rfl p (.ref q) _ (same_then (same_then s1 hq) hp) (SqT.of upd_same) (piece_dp (SqT.of ((upd_ne hqp).trans upd_same)))
def sp_read_row (K : PySem.W.Frag) : Sp := fun vs H Q _ => ∃ (a : Addr) (b : Bytes) (i e : Nat), vs = [.ref a, .int i, .int e] ∧ LI K H a (bI b) ∧ i ≤ e ∧ e ≤ b.length ∧ b.length ≤ 900000 ∧
  (∀ k, Fh.rowRead (cutB b i e) = .error k → ∀ p v H', Same H H' → SqT K H' p [v, .int ((i + k : Nat) : Int)] → Q (.ref p) H') ∧
  ∀ x, Fh.rowRead (cutB b i e) = .ok x → ∀ p l us H', Same H H' → SqT K H' p [.ref l, .int (-1)] → SqL K H' l us → DpAll K H' us (x.map encP) → x.length ≤ e - i → H l = none → H' l = some (.lst us) → Q (.ref p) H'
theorem ok_read_row (T : Txt K mg) : FnOk P w K mg base CX0 4 T.f_read_row.a T.f_read_row.fd ["octets", "begin", "end"] (sp_read_row K) := by
  refine T.f_read_row.F.ok sc_read_row (fun vs H Q E h => ?_) (fun cdv A outer s H vs Q E hr h => ⟨_, (pss_cons (ps_par (i := 3) (j := 4) (by rfl) sc_read_row.nd rfl rfl (by decide) rfl rfl (pa_cons (pe_lst pa_nil) (pa_cons (pv 1) pa_nil)) (by rfl))
 (pss_cons (ps_while PassesOwn.never (pt_cmpR op_lt (pv 4) (pv 2) (nomark _)) (pss_cons (ps_asg (pe_call (ok_piece_at T) (hr.mono (by decide)) rfl T.f_piece_at.g T.f_piece_at.F.kp T.f_piece_at.b .nil pass0 (pa_cons (pv 0) (pa_cons (pv 4) (pa_cons (pv 2) pa_nil)))) (gtK K (n := 2) rfl (pgs_cons (pg_name (i := 5) sc_read_row.nd rfl (Or.inl rfl)) (pgs_cons (pg_name (i := 4) sc_read_row.nd rfl (Or.inl rfl)) pgs_nil))))
 (pss_cons (ps_if (pt_cmpR op_isN1 (pv 5) pe_non (nomark _)) (pss_one (ps_ret (pe_tup (pa_cons (pv 3) (pa_cons (pv 4) pa_nil))))) pss_nil)
 (pss_one (ps_expr (bmK K PySem.F.plainAttrs_list PySem.F.slot_list_append PySem.F.type_list_append mt_append (pv 3) (pa_cons (pv 5) pa_nil)))))))
 (pss_one (ps_ret (pe_tup (pa_cons (pv 3) (pa_cons (pe_un un_neg pe_int) pa_nil))))))), ?_⟩)
  · obtain ⟨_, _, _, _, rfl, _⟩ := h; rfl
  · obtain ⟨a, b, i, e, rfl, hL, hi, he, hbl, kE, kO⟩ := h
    unfold Fh.rowRead at kE kO
    walk_at "u"
    refine ⟨by show 0 ≤ sizeLine; decide, fun pl hpl => ?_⟩
    generalize hR0 : Fh.rowFrom (cutB b i e).length 0 [] (cutB b i e) = R at kE kO
    walk_at "u"
    have hcl : (cutB b i e).length = e - i := cutB_len he
    refine f_while (fun m σ H' => ∃ (n : Nat) (l : List Fh.Piece) (us : List V) (v5 : Option V), σ = [some (.ref a), some (.int i), some (.int e), some (.ref pl), some (.int ((i + n : Nat) : Int)), v5] ∧ Same H H' ∧ H' pl = some (.lst us) ∧ DpAll K H' us (l.reverse.map encP) ∧
        R = Fh.rowFrom m n l (cutB b (i + n) e) ∧ i + n ≤ e ∧ e - (i + n) ≤ m ∧ l.length ≤ n) (m := (cutB b i e).length)
      ⟨0, [], [], none, rfl, same_new hpl, upd_same, .nil, hR0.symm, hi, by omega, Nat.le_refl _⟩ ?_
    rintro m σ H2 ⟨n, l, us, v5, rfl, s2, hf2, hD, hR, hn, hm, hl⟩
    have hul : us.length = l.length := by rw [dps_len hD, List.length_map, List.length_reverse]
    walk_at "u"
    refine ite_d (fun h1 => ?_) (fun h1 => ?_)
    · have hlt : i + n < e := by omega
      obtain ⟨m, rfl⟩ : ∃ j, m = j + 1 := ⟨m - 1, by omega⟩
      obtain ⟨c, hc, hcut⟩ := cutB_cons hlt he
      have hR2 : R = match Fh.pieceHere (cutB b (i + n) e) with | .ok x => Fh.rowFrom m (n + x.2) (x.1 :: l) ((cutB b (i + n) e).drop x.2) | .error k => .error (n + k) := by
        rw [hR, hcut]; rfl
      have hlen : (cutB b (i + n) e).length = e - (i + n) := cutB_len he
      simp only [cutB_drop, Nat.add_assoc] at hR2
      refine u_body ?_
      walk_at "u"
      refine ⟨a, b, i + n, e, rfl, same_l s2 hL, hlt, he, hbl, fun k hk p H3 s3 hp => ?_, fun x hx p v H3 s3 hp hv => ?_⟩
      · rw [hk] at hR2
        walk_at "u"
        refine u_gt hp rfl ?_
        walk_at "u"
        refine ⟨rfl, ?_⟩
        walk_at "u"
        refine ite_d (fun _ => ?_) (fun h => absurd rfl h)
        walk_at "u"
        refine ⟨by show 2 ≤ sizeLine; decide, fun q hq => ?_⟩
        have e1 : i + n + k = i + (n + k) := by omega
        refine kE (n + k) hR2 q (.ref pl) _ (same_then (s2.trans s3) hq) (SqT.of ?_)
        rw [← e1]
        exact upd_same
      · have pos := Sm.piece_pos hx
        rw [hlen] at pos
        rw [hx] at hR2
        obtain ⟨va, rfl, hva⟩ := dp_piece hv
        have hf3 := s3 _ _ hf2
        walk_at "u"
        refine u_gt hp rfl ?_
        walk_at "u"
        refine ⟨rfl, ?_⟩
        walk_at "u"
        refine ite_d (fun h => nomatch h) (fun _ => ?_)
        walk_at "u"
        refine ⟨u_lty hf3, ?_⟩
        walk_at "u"
        refine u_append hf3 (size_less (by omega)) ?_
        walk_at "u"
        have kt4 : Kt H3 (upd H3 pl (.lst (us ++ [.ref va]))) := Kt.upd hf3 rfl
        refine ⟨m, by omega, n + x.2, x.1 :: l, us ++ [.ref va], some (.ref va), ?_, same_mut (s2.trans s3) hpl, upd_same, ?_, hR2, by omega, by omega, by rw [List.length_cons]; omega⟩
        · have e1 : i + n + x.2 = i + (n + x.2) := by omega
          rw [← e1]
          rfl
        · rw [List.reverse_cons, List.map_append]
          exact dps_app (kt4.ds (tupDs_map tupD_P _) (dps_same s3 hD)) (dps_one (kt4.d (tupD_P x.1) hv))
    · have hR3 : R = .ok l.reverse := by
        rw [hR, cutB_nil (by omega)]
        cases m <;> rfl
      walk_at "u"
      refine ⟨by show 2 ≤ sizeLine; decide, fun q hq => ?_⟩
      have s3 := same_new (o := .tup [.ref pl, .int (-1)]) hq
      exact kO l.reverse hR3 q pl us _ (s2.trans s3) (SqT.of upd_same) (Or.inl (Or.inl (s3 _ _ hf2))) (dps_same s3 hD) (by rw [List.length_reverse]; omega) hpl (s3 _ _ hf2)
end
end Sr
namespace Sr
open PySem PySem.Spec PyProof.Rows L2
open Fh (Bytes)
def keyP (p : Fh.Piece) : List Key := [.inl (kindP p), .inl (numP p : Nat)]
theorem keyP_inj {p q : Fh.Piece} : keyP p = keyP q ↔ p = q := by
  constructor
  · intro h
    have h1 : kindP p = kindP q := Sum.inl.inj (List.cons.inj h).1
    have h2 : ((numP p : Nat) : Int) = (numP q : Nat) := Sum.inl.inj (List.cons.inj (List.cons.inj h).2).1
    have h3 : numP p = numP q := by omega
    clear h h2
    cases p <;> cases q <;> simp_all [kindP, numP]
  · rintro rfl; rfl
def seenKV (seen : List Fh.Piece) : List (List Key × V) := seen.map fun p => (keyP p, V.bl true)
theorem seen_val (seen : List Fh.Piece) (q : Fh.Piece) : (valV (seenKV seen) (keyP q)).isSome = seen.contains q := by
  induction seen with
  | nil => rfl
  | cons p r ih =>
    unfold seenKV at ih ⊢
    rw [List.map_cons]
    by_cases e : p = q
    · subst e
      rw [valV_pos rfl]
      simp
    · rw [valV_neg (fun z => e (keyP_inj.mp z)), ih]
      simp [e]
      intro z
      exact absurd z.symm e
theorem seen_put {seen : List Fh.Piece} {p : Fh.Piece} (h : seen.contains p = false) : putK (seenKV seen) (keyP p) (.bl true) = seenKV (seen ++ [p]) := by
  rw [putK_new]
  · unfold seenKV; rw [List.map_append]; rfl
  · have := seen_val seen p
    rw [h] at this
    exact Option.isNone_iff_eq_none.mp (by rw [← Option.not_isSome, this]; rfl)
theorem wr_o (seen : List Fh.Piece) (n : Nat) : Sm.wrongM seen (.open_ n) = (seen.contains (.open_ n) || (seen.contains (.alone n) || seen.contains (.close n))) := rfl
theorem wr_c (seen : List Fh.Piece) (n : Nat) : Sm.wrongM seen (.close n) = (seen.contains (.close n) || seen.contains (.alone n)) := rfl
theorem wr_a (seen : List Fh.Piece) (n : Nat) : Sm.wrongM seen (.alone n) = (seen.contains (.alone n) || (seen.contains (.open_ n) || seen.contains (.close n))) := rfl
section
variable {P : Program} {w : World} {K : PySem.W.Frag} {mg : Str → Option Value} {base : Heap}
def sp_is_wrong (K : PySem.W.Frag) : Sp := fun vs H Q _ => ∃ (d : Addr) (seen : List Fh.Piece) (p : Fh.Piece), vs = [.ref d, .int (kindP p), .int (numP p : Nat)] ∧ p.isTag = true ∧ H d = some (.dT (seenKV seen)) ∧ ∀ r, r = Sm.wrongM seen p → ∀ H', Same H H' → Q (.bl r) H'
theorem ok_is_wrong (T : Txt K mg) : FnOk P w K mg base CX0 1 T.f_is_wrong.a T.f_is_wrong.fd ["seen", "kind", "number"] (sp_is_wrong K) := by
  refine T.f_is_wrong.F.ok sc_is_wrong (fun vs H Q E h => ?_) (fun cdv A outer s H vs Q E hr h => ⟨_, (pss_cons (ps_if (pt_cmp (pc_din (hu_of hr) (pe_tup (pa_cons (pv 1) (pa_cons (pv 2) pa_nil))) (pv 0))) (pss_one (ps_ret pe_bl)) pss_nil)
 (pss_cons (ps_if (pt_cmpR op_eq (pv 1) (pe_gi T.c_ALONE) (nomark _)) (pss_one (ps_ret (pe_or (pe_cmp (pc_din (hu_of hr) (pe_tup (pa_cons (pe_gi T.c_OPENS) (pa_cons (pv 2) pa_nil))) (pv 0))) (pe_one (pe_cmp (pc_din (hu_of hr) (pe_tup (pa_cons (pe_gi T.c_CLOSES) (pa_cons (pv 2) pa_nil))) (pv 0))))))) pss_nil)
 (pss_one (ps_ret (pe_or (pe_cmp (pc_din (hu_of hr) (pe_tup (pa_cons (pe_gi T.c_ALONE) (pa_cons (pv 2) pa_nil))) (pv 0))) (pe_one (pe_and (pe_cmpR op_eq (pv 1) (pe_gi T.c_OPENS) (nomark _)) (pe_one (pe_cmp (pc_din (hu_of hr) (pe_tup (pa_cons (pe_gi T.c_CLOSES) (pa_cons (pv 2) pa_nil))) (pv 0))))))))))), ?_⟩)
  · obtain ⟨_, _, _, rfl, _⟩ := h; rfl
  · obtain ⟨d, seen, p, rfl, ht, hd, k⟩ := h
    have ask : ∀ (H1 : Hp) (Q' : VK) (q : Fh.Piece), Same H H1 → (∀ H2, Same H H2 → Q' (.bl (seen.contains q)) H2) → ∀ b, H1 b = none → RIn (.ref b) (.ref d) (upd H1 b (.tup [.int (kindP q), .int (numP q : Nat)])) Q' := by
      intro H1 Q' q s1 hq b hb
      have s2 := same_then (o := .tup [.int (kindP q), .int (numP q : Nat)]) s1 hb
      refine u_inT (k := keyP q) (s2 _ _ hd) upd_same ?_
      rw [seen_val]
      exact hq _ s2
    walk_at "u"
    refine ⟨by show 2 ≤ sizeLine; decide, fun b hb => ?_⟩
    walk_at "u"
    refine ask _ _ p (Same.refl _) (fun H1 s1 => ?_) b hb
    walk_at "u"
    refine ite_b (fun h1 => ?_) (fun h1 => ?_)
    · walk_at "u"
      refine k _ ?_ _ s1
      cases p with
      | char c => cases ht
      | open_ n => rw [wr_o, h1]; rfl
      | close n => rw [wr_c, h1]; rfl
      | alone n => rw [wr_a, h1]; rfl
    · walk_at "u"
      cases p with
      | char c => cases ht
      | open_ n =>
        refine ite_d (fun h => absurd h (show ¬ (1 : Int) = 3 by decide)) (fun _ => ?_)
        walk_at "u"
        refine ⟨by show 2 ≤ sizeLine; decide, fun b2 hb2 => ?_⟩
        walk_at "u"
        refine ask _ _ (.alone n) s1 (fun H2 s2 => ?_) b2 hb2
        walk_at "u"
        refine ite_b (fun h2 => ?_) (fun h2 => ?_)
        · refine k _ ?_ _ s2
          rw [wr_o, h1, h2]; rfl
        · walk_at "u"
          refine ite_d (fun _ => ?_) (fun h => absurd rfl h)
          walk_at "u"
          refine ⟨by show 2 ≤ sizeLine; decide, fun b3 hb3 => ?_⟩
          walk_at "u"
          refine ask _ _ (.close n) s2 (fun H3 s3 => ?_) b3 hb3
          refine k _ ?_ _ s3
          rw [wr_o, h1, h2]; rfl
      | close n =>
        refine ite_d (fun h => absurd h (show ¬ (2 : Int) = 3 by decide)) (fun _ => ?_)
        walk_at "u"
        refine ⟨by show 2 ≤ sizeLine; decide, fun b2 hb2 => ?_⟩
        walk_at "u"
        refine ask _ _ (.alone n) s1 (fun H2 s2 => ?_) b2 hb2
        walk_at "u"
        refine ite_b (fun h2 => ?_) (fun h2 => ?_)
        · refine k _ ?_ _ s2
          rw [wr_c, h1, h2]; rfl
        · walk_at "u"
          refine ite_d (fun h => absurd h (show ¬ (2 : Int) = 1 by decide)) (fun _ => ?_)
          refine k _ ?_ _ s2
          rw [wr_c, h1, h2]; rfl
      | alone n =>
        refine ite_d (fun _ => ?_) (fun h => absurd rfl h)
        walk_at "u"
        refine ⟨by show 2 ≤ sizeLine; decide, fun b2 hb2 => ?_⟩
        walk_at "u"
        refine ask _ _ (.open_ n) s1 (fun H2 s2 => ?_) b2 hb2
        walk_at "u"
        refine ite_b (fun h2 => ?_) (fun h2 => ?_)
        · refine k _ ?_ _ s2
          rw [wr_a, h1, h2]; rfl
        · walk_at "u"
          refine ⟨by show 2 ≤ sizeLine; decide, fun b3 hb3 => ?_⟩
          walk_at "u"
          refine ask _ _ (.close n) s2 (fun H3 s3 => ?_) b3 hb3
          refine k _ ?_ _ s3
          rw [wr_a, h1, h2]; rfl
end
end Sr
namespace Sr
open PySem PySem.Spec PyProof.Rows L2
open Fh (Bytes)
theorem drop_at {α : Type} {l : List α} {i : Nat} (h : i < l.length) : l.drop i = l[i] :: l.drop (i + 1) := List.drop_eq_getElem_cons h
theorem hp_skip (seen : List Fh.Piece) (l s : List Nat) (c : Nat) (r : Fh.Row) : Sm.halvesP seen l s (.char c :: r) = Sm.halvesP seen l s r := rfl
theorem hp_wrong {seen : List Fh.Piece} {p : Fh.Piece} (l s : List Nat) (r : Fh.Row) (h : Sm.wrongM seen p = true) : Sm.halvesP seen l s (p :: r) = none := by
  rw [Sm.halvesP_eq]
  have e : Sm.wrongAny seen (p :: r) = (Sm.wrongM seen p || Sm.wrongAny (Sm.seenM seen p) r) := rfl
  rw [e, h]; rfl
theorem hp_open {seen : List Fh.Piece} {n : Nat} (l s : List Nat) (r : Fh.Row) (h : Sm.wrongM seen (.open_ n) = false) : Sm.halvesP seen l s (.open_ n :: r) = Sm.halvesP (seen ++ [.open_ n]) l (n :: s) r := if_neg (by rw [h]; decide)
theorem hp_left {seen : List Fh.Piece} {n : Nat} (l : List Nat) (r : Fh.Row) (h : Sm.wrongM seen (.close n) = false) : Sm.halvesP seen l [] (.close n :: r) = Sm.halvesP (seen ++ [.close n]) (l ++ [n]) [] r := if_neg (by rw [h]; decide)
theorem hp_close {seen : List Fh.Piece} {n : Nat} (m : Nat) (l s : List Nat) (r : Fh.Row) (h : Sm.wrongM seen (.close n) = false) : Sm.halvesP seen l (m :: s) (.close n :: r) = if m = n then Sm.halvesP (seen ++ [.close n]) l s r else none := if_neg (by rw [h]; decide)
theorem hp_alone {seen : List Fh.Piece} {n : Nat} (l s : List Nat) (r : Fh.Row) (h : Sm.wrongM seen (.alone n) = false) : Sm.halvesP seen l s (.alone n :: r) = Sm.halvesP (seen ++ [.alone n]) l s r := if_neg (by rw [h]; decide)
theorem not_seen {seen : List Fh.Piece} {p : Fh.Piece} (ht : p.isTag = true) (h : Sm.wrongM seen p = false) : seen.contains p = false := by
  cases p with
  | char c => cases ht
  | open_ n => rw [wr_o] at h; exact (Bool.or_eq_false_iff.mp h).1
  | close n => rw [wr_c] at h; exact (Bool.or_eq_false_iff.mp h).1
  | alone n => rw [wr_a] at h; exact (Bool.or_eq_false_iff.mp h).1
theorem natI_snoc (l : List Nat) (n : Nat) : (natI (l ++ [n])).map V.int = (natI l).map V.int ++ [.int n] := by unfold natI; rw [List.map_append, List.map_append]; rfl
/-- the three objects of the loop -/
structure HvAt (K : PySem.W.Frag) (H0 H : Hp) (la pa da : Addr) (seen : List Fh.Piece) (l s : List Nat) : Prop where
  sm : Same H0 H
  l : H la = some (.lst ((natI l).map V.int))
  p : H pa = some (.lst ((natI s.reverse).map V.int))
  d : H da = some (.dT (seenKV seen))
  lp : la ≠ pa
  n1 : H0 la = none
  n2 : H0 pa = none
  n3 : H0 da = none
theorem HvAt.ld {K : PySem.W.Frag} {H0 H : Hp} {la pa da : Addr} {seen : List Fh.Piece} {l s : List Nat} (h : HvAt K H0 H la pa da seen l s) : la ≠ da := fun z => by have := h.l; rw [z, h.d] at this; cases this
theorem HvAt.pd {K : PySem.W.Frag} {H0 H : Hp} {la pa da : Addr} {seen : List Fh.Piece} {l s : List Nat} (h : HvAt K H0 H la pa da seen l s) : pa ≠ da := fun z => by have := h.p; rw [z, h.d] at this; cases this
theorem HvAt.on {K : PySem.W.Frag} {H0 H H' : Hp} {la pa da : Addr} {seen : List Fh.Piece} {l s : List Nat} (h : HvAt K H0 H la pa da seen l s) (e : Same H H') : HvAt K H0 H' la pa da seen l s := ⟨h.sm.trans e, e _ _ h.l, e _ _ h.p, e _ _ h.d, h.lp, h.n1, h.n2, h.n3⟩
theorem HvAt.setD {K : PySem.W.Frag} {H0 H : Hp} {la pa da : Addr} {seen seen' : List Fh.Piece} {l s : List Nat} (h : HvAt K H0 H la pa da seen l s) : HvAt K H0 (upd H da (.dT (seenKV seen'))) la pa da seen' l s :=
  ⟨same_mut h.sm h.n3, (upd_ne h.ld).trans h.l, (upd_ne h.pd).trans h.p, upd_same, h.lp, h.n1, h.n2, h.n3⟩
theorem HvAt.setP {K : PySem.W.Frag} {H0 H : Hp} {la pa da : Addr} {seen : List Fh.Piece} {l s s' : List Nat} {xs : List V} (h : HvAt K H0 H la pa da seen l s) (e : xs = (natI s'.reverse).map V.int) : HvAt K H0 (upd H pa (.lst xs)) la pa da seen l s' := by
  subst e
  exact ⟨same_mut h.sm h.n2, (upd_ne h.lp).trans h.l, upd_same, (upd_ne h.pd.symm).trans h.d, h.lp, h.n1, h.n2, h.n3⟩
theorem HvAt.setL {K : PySem.W.Frag} {H0 H : Hp} {la pa da : Addr} {seen : List Fh.Piece} {l l' s : List Nat} {xs : List V} (h : HvAt K H0 H la pa da seen l s) (e : xs = (natI l').map V.int) : HvAt K H0 (upd H la (.lst xs)) la pa da seen l' s := by
  subst e
  exact ⟨same_mut h.sm h.n1, upd_same, (upd_ne h.lp.symm).trans h.p, (upd_ne h.ld.symm).trans h.d, h.lp, h.n1, h.n2, h.n3⟩
theorem shaped_two (a b : List Int) : SeqAt.shaped (.tuple [.list (a.map PyData.int), .list (b.map PyData.int)]) = true := by
  simp [SeqAt.shaped, PyData.canLay0, PyData.canLayAll0, PyData.depth, PyData.depthAll, PySem.W.ke_canLayAll0, PySem.W.ke_depthAll]
theorem eqv_two (h : List Nat × List Nat) : PyData.eqv (.tuple [.list ((natI h.1).map PyData.int), .list ((natI h.2).map PyData.int)]) (.tuple [.list [], .list []]) = decide (some h = some (([], []) : List Nat × List Nat)) := by
  rw [PyData.eqv, PyData.eqvAll, PyData.eqvAll, PyData.eqvAll, PyData.eqv, PyData.eqv]
  obtain ⟨a, b⟩ := h
  cases a <;> cases b <;> simp [natI, PyData.eqvAll]
section
variable {P : Program} {w : World} {K : PySem.W.Frag} {mg : Str → Option Value} {base : Heap}
theorem u_pop {H : Hp} {Q : VK} {l : Addr} {xs : List V} {y : V} (hl : H l = some (.lst (xs ++ [y]))) (h : Q y (upd H l (.lst xs))) : rPop (.ref l) [] H Q := by
  refine ⟨l, xs ++ [y], y, rfl, rfl, hl, ?_, ?_⟩
  · rw [List.length_append, List.length_singleton, Nat.add_sub_cancel, List.getElem?_append_right (Nat.le_refl _), Nat.sub_self]; rfl
  · rw [List.dropLast_concat]; exact h
theorem u_bm0 {H : Hp} {Q : VK} {σ : L2.St} {r : V → List V → Hp → VK → Prop} {to : TE} {t : String} (h : to σ H fun x H1 => tyV K t x H1 ∧ r x [] H1 Q) : tBM0 K t r to σ H Q := h
def sp_halves_of (K : PySem.W.Frag) : Sp := fun vs H Q _ => ∃ (pl : Addr) (us : List V) (row : Fh.Row), vs = [.ref pl] ∧ SqL K H pl us ∧ DpAll K H us (row.map encP) ∧ row.length ≤ 900000 ∧
  (Sm.halvesP [] [] [] row = none → ∀ H', Same H H' → Q .non H') ∧
  ∀ h, Sm.halvesP [] [] [] row = some h → ∀ p la pa H', Same H H' → SqT K H' p [.ref la, .ref pa] → LI K H' la (natI h.1) → LI K H' pa (natI h.2) → Q (.ref p) H'
theorem ok_halves_of (T : Txt K mg) : FnOk P w K mg base CX0 2 T.f_halves_of.a T.f_halves_of.fd ["pieces"] (sp_halves_of K) := by
  refine T.f_halves_of.F.ok sc_halves_of (fun vs H Q E h => ?_) (fun cdv A outer s H vs Q E hr h => ⟨_, (pss_cons (ps_par3 (i := 1) (j := 2) (l := 3) (by rfl) sc_halves_of.nd rfl rfl rfl (by decide) (by decide) (by decide) rfl rfl rfl (pa_cons (pe_lst pa_nil) (pa_cons (pe_lst pa_nil) (pa_cons pe_dnewT pa_nil))) (by rfl))
 (pss_cons (ps_for PassesOwn.never rfl (piLK K (pv 0)) (gtK K (n := 2) rfl (pgs_cons (pg_name (i := 4) sc_halves_of.nd rfl (Or.inl rfl)) (pgs_cons (pg_name (i := 5) sc_halves_of.nd rfl (Or.inl rfl)) pgs_nil))) (pss_cons (ps_if (pt_cmpR op_ne (pv 4) (pe_gi T.c_CHARACTER) (nomark _)) (pss_cons (ps_if (pt_val (pe_call (ok_is_wrong T) (hr.mono (by decide)) rfl T.f_is_wrong.g T.f_is_wrong.F.kp T.f_is_wrong.b .nil pass0 (pa_cons (pv 3) (pa_cons (pv 4) (pa_cons (pv 5) pa_nil))))) (pss_one (ps_ret pe_non)) pss_nil)
 (pss_one (ps_dput (hu_of hr) (pv 3) (pe_tup (pa_cons (pv 4) (pa_cons (pv 5) pa_nil))) pe_bl rfl))) pss_nil)
 (pss_cons (ps_if (pt_cmpR op_eq (pv 4) (pe_gi T.c_OPENS) (nomark _)) (pss_one (ps_expr (bmK K PySem.F.plainAttrs_list PySem.F.slot_list_append PySem.F.type_list_append mt_append (pv 2) (pa_cons (pv 5) pa_nil)))) pss_nil)
 (pss_one (ps_if (PW.pt (pw_and (pt_cmpR op_eq (pv 4) (pe_gi T.c_CLOSES) (nomark _)) (pw_and1 (pt_cmpR (eqDK K hr.units) (pv 2) (pe_lst pa_nil) (nomark _))))) (pss_one (ps_expr (bmK K PySem.F.plainAttrs_list PySem.F.slot_list_append PySem.F.type_list_append mt_append (pv 1) (pa_cons (pv 5) pa_nil)))) (pss_one (ps_if (pt_cmpR op_eq (pv 4) (pe_gi T.c_CLOSES) (nomark _)) (pss_cons (ps_if (pt_cmpR op_ne (pe_ix (ixLK K) (pv 2) (pe_un un_neg pe_int) (fun _ _ => rfl)) (pv 5) (nomark _)) (pss_one (ps_ret pe_non)) pss_nil)
 (pss_one (ps_expr (bm0K K PySem.F.plainAttrs_list PySem.F.slot_list_pop PySem.F.type_list_pop mt_pop (pv 2))))) pss_nil)))))))
 (pss_one (ps_ret (pe_tup (pa_cons (pv 1) (pa_cons (pv 2) pa_nil))))))), ?_⟩)
  · obtain ⟨_, _, _, rfl, _⟩ := h; rfl
  · obtain ⟨pl, us, row, rfl, hL, hD, hrl, kN, kS⟩ := h
    generalize hX : Sm.halvesP [] [] [] row = X at kN kS
    walk_at "u"
    refine ⟨by show 0 ≤ sizeLine; decide, fun la hla => ?_⟩
    walk_at "u"
    refine ⟨by show 0 ≤ sizeLine; decide, fun pa hpa => ?_⟩
    walk_at "u"
    intro da hda
    have hlp : la ≠ pa := fun z => by rw [← z, upd_same] at hpa; cases hpa
    have hld : la ≠ da := fun z => by rw [← z, upd_ne hlp, upd_same] at hda; cases hda
    have hpd : pa ≠ da := fun z => by rw [← z, upd_same] at hda; cases hda
    have hpa0 : H pa = none := by rw [upd_ne hlp.symm] at hpa; exact hpa
    have hda0 : H da = none := by rw [upd_ne hpd.symm, upd_ne hld.symm] at hda; exact hda
    have hv : HvAt K H (upd (upd (upd H la (.lst [])) pa (.lst [])) da (.dT [])) la pa da [] [] [] :=
      ⟨same_mut (same_mut (same_new hla) hpa0) hda0, (upd_ne hld).trans ((upd_ne hlp).trans upd_same), (upd_ne hpd).trans upd_same, upd_same, hlp, hla, hpa0, hda0⟩
    generalize upd (upd (upd H la (.lst [])) pa (.lst [])) da (.dT []) = H1 at hv
    have el : us.length = row.length := by rw [dps_len hD, List.length_map]
    walk_at "u"
    refine f_list (K := K) (a := pl) (xs := us) (fun i σ H' => ∃ (v4 v5 : Option V) (seen : List Fh.Piece) (l s : List Nat), σ = [some (.ref pl), some (.ref la), some (.ref pa), some (.ref da), v4, v5] ∧ HvAt K H H' la pa da seen l s ∧
      X = Sm.halvesP seen l s (row.drop i) ∧ l.length ≤ i ∧ s.length ≤ i ∧ seen.length ≤ i) (same_l hv.sm hL) ⟨none, none, [], [], [], rfl, hv, hX.symm, Nat.le_refl _, Nat.le_refl _, Nat.le_refl _⟩ (fun i σ H' _ ⟨_, _, _, _, _, _, e, _⟩ => same_l e.sm hL) ?_ ?_
    · rintro i x σ H2 hx ⟨v4, v5, seen, l, s, rfl, hv, hX, hl, hs, hse⟩
      have hi : i < row.length := by have := (List.getElem?_eq_some_iff.mp hx).1; rw [el] at this; exact this
      obtain ⟨v, hv2, hd⟩ := dps_get hD (i := i) (d := encP row[i]) (by rw [List.getElem?_map, List.getElem?_eq_getElem hi]; rfl)
      rw [hx] at hv2
      cases hv2
      rw [drop_at hi] at hX
      generalize row[i] = p at hd hX
      obtain ⟨a, rfl, ha⟩ := dp_piece (dp_same hv.sm hd)
      refine u_gt ha rfl ?_
      walk_at "u"
      cases p with
      | char c =>
        rw [hp_skip] at hX
        refine ite_d (fun h => absurd rfl h) (fun _ => ?_)
        walk_at "u"
        refine ite_d (fun h => absurd h (show ¬ (0 : Int) = 1 by decide)) (fun _ => ?_)
        walk_at "u"
        refine ite_d (fun h => absurd h (show ¬ (0 : Int) = 2 by decide)) (fun _ => ?_)
        walk_at "u"
        refine ite_d (fun h => absurd h (show ¬ (0 : Int) = 2 by decide)) (fun _ => ?_)
        walk_at "u"
        exact ⟨_, _, seen, l, s, rfl, hv, hX, by omega, by omega, by omega⟩
      | open_ n =>
        refine ite_d (fun _ => ?_) (fun h => absurd (show (1 : Int) ≠ 0 by decide) h)
        walk_at "u"
        refine ⟨da, seen, .open_ n, rfl, rfl, hv.d, fun r hr H3 s3 => ?_⟩
        have hv3 := hv.on s3
        walk_at "u"
        refine ite_b (fun h => ?_) (fun h => ?_)
        · rw [hp_wrong l s _ (hr.symm.trans h)] at hX
          walk_at "u"
          exact kN hX _ hv3.sm
        · have hw : Sm.wrongM seen (.open_ n) = false := hr.symm.trans h
          rw [hp_open l s _ hw] at hX
          walk_at "u"
          refine ⟨by show 2 ≤ sizeLine; decide, fun b hb => ?_⟩
          have hv4 := hv3.on (same_new (o := .tup [.int 1, .int (n : Nat)]) hb)
          refine u_putT (k := keyP (.open_ n)) hv4.d upd_same (size_less (by unfold seenKV; rw [List.length_map]; omega)) ?_
          rw [seen_put (not_seen rfl hw)]
          have hv5 := hv4.setD (seen' := seen ++ [.open_ n])
          walk_at "u"
          refine ite_d (fun _ => ?_) (fun h => absurd rfl h)
          walk_at "u"
          refine ⟨u_lty hv5.p, ?_⟩
          walk_at "u"
          refine u_append hv5.p (size_less (by rw [map_int_len, natI_len, List.length_reverse]; omega)) ?_
          have hv6 := hv5.setP (s' := n :: s) (xs := (natI s.reverse).map V.int ++ [.int n]) (by rw [List.reverse_cons, natI_snoc])
          walk_at "u"
          refine ite_d (fun h => absurd h (show ¬ (1 : Int) = 2 by decide)) (fun _ => ?_)
          walk_at "u"
          refine ite_d (fun h => absurd h (show ¬ (1 : Int) = 2 by decide)) (fun _ => ?_)
          walk_at "u"
          exact ⟨_, _, _, l, _, rfl, hv6, hX, by omega, by rw [List.length_cons]; omega, by rw [List.length_append, List.length_singleton]; omega⟩
      | alone n =>
        refine ite_d (fun _ => ?_) (fun h => absurd (show (3 : Int) ≠ 0 by decide) h)
        walk_at "u"
        refine ⟨da, seen, .alone n, rfl, rfl, hv.d, fun r hr H3 s3 => ?_⟩
        have hv3 := hv.on s3
        walk_at "u"
        refine ite_b (fun h => ?_) (fun h => ?_)
        · rw [hp_wrong l s _ (hr.symm.trans h)] at hX
          walk_at "u"
          exact kN hX _ hv3.sm
        · have hw : Sm.wrongM seen (.alone n) = false := hr.symm.trans h
          rw [hp_alone l s _ hw] at hX
          walk_at "u"
          refine ⟨by show 2 ≤ sizeLine; decide, fun b hb => ?_⟩
          have hv4 := hv3.on (same_new (o := .tup [.int 3, .int (n : Nat)]) hb)
          refine u_putT (k := keyP (.alone n)) hv4.d upd_same (size_less (by unfold seenKV; rw [List.length_map]; omega)) ?_
          rw [seen_put (not_seen rfl hw)]
          have hv5 := hv4.setD (seen' := seen ++ [.alone n])
          walk_at "u"
          refine ite_d (fun h => absurd h (show ¬ (3 : Int) = 1 by decide)) (fun _ => ?_)
          walk_at "u"
          refine ite_d (fun h => absurd h (show ¬ (3 : Int) = 2 by decide)) (fun _ => ?_)
          walk_at "u"
          refine ite_d (fun h => absurd h (show ¬ (3 : Int) = 2 by decide)) (fun _ => ?_)
          walk_at "u"
          exact ⟨_, _, _, l, s, rfl, hv5, hX, by omega, by omega, by rw [List.length_append, List.length_singleton]; omega⟩
      | close n =>
        refine ite_d (fun _ => ?_) (fun h => absurd (show (2 : Int) ≠ 0 by decide) h)
        walk_at "u"
        refine ⟨da, seen, .close n, rfl, rfl, hv.d, fun r hr H3 s3 => ?_⟩
        have hv3 := hv.on s3
        walk_at "u"
        refine ite_b (fun h => ?_) (fun h => ?_)
        · rw [hp_wrong l s _ (hr.symm.trans h)] at hX
          walk_at "u"
          exact kN hX _ hv3.sm
        · have hw : Sm.wrongM seen (.close n) = false := hr.symm.trans h
          walk_at "u"
          refine ⟨by show 2 ≤ sizeLine; decide, fun b hb => ?_⟩
          have hv4 := hv3.on (same_new (o := .tup [.int 2, .int (n : Nat)]) hb)
          refine u_putT (k := keyP (.close n)) hv4.d upd_same (size_less (by unfold seenKV; rw [List.length_map]; omega)) ?_
          rw [seen_put (not_seen rfl hw)]
          have hv5 := hv4.setD (seen' := seen ++ [.close n])
          walk_at "u"
          refine ite_d (fun h => absurd h (show ¬ (2 : Int) = 1 by decide)) (fun _ => ?_)
          walk_at "u"
          refine ite_d (fun _ => ?_) (fun h => absurd rfl h)
          walk_at "u"
          refine ⟨by show 0 ≤ sizeLine; decide, fun e he => ?_⟩
          have hv6 := hv5.on (same_new (o := .lst []) he)
          walk_at "u"
          refine u_eqL (ns := natI s.reverse) (ms := []) (Or.inl (Or.inl hv6.p)) (Or.inl (Or.inl upd_same)) ?_
          walk_at "u"
          cases s with
          | nil =>
            rw [hp_left l _ hw] at hX
            refine ite_d (fun _ => ?_) (fun h => absurd rfl h)
            walk_at "u"
            refine ⟨u_lty hv6.l, ?_⟩
            walk_at "u"
            refine u_append hv6.l (size_less (by rw [map_int_len, natI_len]; omega)) ?_
            have hv7 := hv6.setL (l' := l ++ [n]) (xs := (natI l).map V.int ++ [.int n]) (by rw [natI_snoc])
            walk_at "u"
            exact ⟨_, _, _, _, [], rfl, hv7, hX, by rw [List.length_append, List.length_singleton]; omega, by omega, by rw [List.length_append, List.length_singleton]; omega⟩
          | cons m s =>
            rw [hp_close m l s _ hw] at hX
            refine ite_d (fun h => ?_) (fun _ => ?_)
            · exfalso
              have := congrArg List.length h
              rw [natI_len, List.length_reverse] at this
              cases this
            walk_at "u"
            refine ite_d (fun _ => ?_) (fun h => absurd rfl h)
            have hp6 := hv6.p
            rw [List.reverse_cons, natI_snoc] at hp6
            walk_at "u"
            refine u_ixL (Or.inl (Or.inl hp6)) (atI_last _ _) ?_
            walk_at "u"
            refine ite_d (fun h2 => ?_) (fun h2 => ?_)
            · rw [if_neg (fun z => h2 (by rw [z]; rfl))] at hX
              walk_at "u"
              exact kN hX _ hv6.sm
            · have h3 : ¬ (m : Int) ≠ (n : Int) := h2
              rw [if_pos (by omega)] at hX
              walk_at "u"
              refine u_bm0 ?_
              walk_at "u"
              refine ⟨u_lty hp6, ?_⟩
              refine u_pop hp6 ?_
              have hv7 := hv6.setP (s' := s) (xs := (natI s.reverse).map V.int) rfl
              walk_at "u"
              exact ⟨_, _, _, l, s, rfl, hv7, hX, by omega, by rw [List.length_cons] at hs; omega, by rw [List.length_append, List.length_singleton]; omega⟩
    · rintro σ H2 ⟨v4, v5, seen, l, s, rfl, hv, hX, hl, hs, hse⟩
      rw [el, List.drop_length] at hX
      have hX2 : X = some (l, s.reverse) := hX
      walk_at "u"
      refine ⟨by show 2 ≤ sizeLine; decide, fun p hp => ?_⟩
      have hv3 := hv.on (same_new (o := .tup [.ref la, .ref pa]) hp)
      exact kS _ hX2 p la pa _ hv3.sm (SqT.of upd_same) (Or.inl (Or.inl hv3.l)) (Or.inl (Or.inl hv3.p))
def sp_is_paired (K : PySem.W.Frag) : Sp := fun vs H Q _ => ∃ (pl : Addr) (us : List V) (row : Fh.Row), vs = [.ref pl] ∧ SqL K H pl us ∧ DpAll K H us (row.map encP) ∧ row.length ≤ 900000 ∧ ∀ r, r = Fh.paired row → ∀ H', Same H H' → Q (.bl r) H'
theorem ok_is_paired (T : Txt K mg) : FnOk P w K mg base CX0 3 T.f_is_paired.a T.f_is_paired.fd ["pieces"] (sp_is_paired K) := by
  refine T.f_is_paired.F.ok sc_is_paired (fun vs H Q E h => ?_) (fun cdv A outer s H vs Q E hr h => ⟨_, (pss_one (ps_ret (pe_cmpR (eqDK K hr.units) (pe_call (ok_halves_of T) (hr.mono (by decide)) rfl T.f_halves_of.g T.f_halves_of.F.kp T.f_halves_of.b .nil pass0 (pa_cons (pv 0) pa_nil)) (pe_tup (pa_cons (pe_lst pa_nil) (pa_cons (pe_lst pa_nil) pa_nil))) (nomark _)))), ?_⟩)
  · obtain ⟨_, _, _, rfl, _⟩ := h; rfl
  · obtain ⟨pl, us, row, rfl, hL, hD, hrl, k⟩ := h
    rw [Sm.paired_eq] at k
    walk_at "u"
    have two : ∀ (H1 : Hp) (a b : Addr), H1 a = none → upd H1 a (.lst []) b = none → ∀ p, upd (upd H1 a (.lst [])) b (.lst []) p = none → ∃ H3, H3 = upd (upd (upd H1 a (.lst [])) b (.lst [])) p (.tup [.ref a, .ref b]) ∧ Same H1 H3 ∧ Dp K H3 (.ref p) (.tuple [.list [], .list []]) := by
      intro H1 a b ha hb p hp
      have hab : a ≠ b := fun z => by rw [← z, upd_same] at hb; cases hb
      have hap : a ≠ p := fun z => by rw [← z, upd_ne hab, upd_same] at hp; cases hp
      have hbp : b ≠ p := fun z => by rw [← z, upd_same] at hp; cases hp
      refine ⟨_, rfl, same_then (same_then (same_new ha) hb) hp, .tup (SqT.of upd_same) (.cons (.lst (Or.inl (Or.inl ((upd_ne hap).trans ((upd_ne hab).trans upd_same)))) .nil) (.cons (.lst (Or.inl (Or.inl ((upd_ne hbp).trans upd_same))) .nil) .nil))⟩
    refine ⟨pl, us, row, rfl, hL, hD, hrl, fun hN H1 s1 => ?_, fun h hS p la pa H1 s1 hp hla hpa => ?_⟩
    · walk_at "u"
      refine ⟨by show 0 ≤ sizeLine; decide, fun a ha => ?_⟩
      walk_at "u"
      refine ⟨by show 0 ≤ sizeLine; decide, fun b hb => ?_⟩
      walk_at "u"
      refine ⟨by show 2 ≤ sizeLine; decide, fun p hp => ?_⟩
      obtain ⟨H3, e3, s3, d3⟩ := two H1 a b ha hb p hp
      rw [← e3]
      refine ⟨.none, _, .non, d3, by decide +kernel, by decide +kernel, ?_⟩
      refine k _ ?_ _ (s1.trans s3)
      rw [hN]
      rfl
    · walk_at "u"
      refine ⟨by show 0 ≤ sizeLine; decide, fun a ha => ?_⟩
      walk_at "u"
      refine ⟨by show 0 ≤ sizeLine; decide, fun b hb => ?_⟩
      walk_at "u"
      refine ⟨by show 2 ≤ sizeLine; decide, fun q hq => ?_⟩
      obtain ⟨H3, e3, s3, d3⟩ := two H1 a b ha hb q hq
      rw [← e3]
      refine ⟨_, _, .tup (same_t s3 hp) (.cons (.lst (same_l s3 hla) (dp_ints _)) (.cons (.lst (same_l s3 hpa) (dp_ints _)) .nil)), d3, ?_, by decide +kernel, ?_⟩
      · exact shaped_two _ _
      · refine k _ ?_ _ (s1.trans s3)
        rw [hS, eqv_two]
end
end Sr
namespace Sr
open PySem PySem.Spec PyProof.Rows L2
open Fh (Bytes)
/-- rules within bounds, as they were read -/
structure GoodR (R : Fh.Rules) : Prop where
  few : R.rules.length ≤ 256
  ok : ∀ r ∈ R.rules, OkRu R r
theorem good_of {b : Bytes} {R : Fh.Rules} (h : Sm.wholeM b = .ok R) (hb : Sm.beyondM R = false) : GoodR R := by
  have q := Sm.beyond_rule hb
  exact ⟨q.1, fun r hr => ⟨Sm.whole_wf h r hr, fun it hi => by have := (q.2 r hr).1 it hi; omega, fun it hi => by have := (q.2 r hr).2 it hi; omega⟩⟩
theorem RuAt.same {K : PySem.W.Frag} {H H' : Hp} {v : V} {R : Fh.Rules} (s : Same H H') (h : RuAt K H v R) : RuAt K H' v R := by
  obtain ⟨p, dc, kvs, fl, us, rfl, hp, hdc, hC, hfl, hD, hnd⟩ := h
  exact ⟨p, dc, kvs, fl, us, rfl, same_t s hp, s _ _ hdc, hC.kt (Kt.same s), same_l s hfl, dps_same s hD, hnd⟩
end Sr
namespace Sr
open PySem PySem.Spec PyProof.Rows L2
open Fh (Bytes)
theorem chars_app (a b : Fh.Row) : Fh.charsOf (a ++ b) = Fh.charsOf a ++ Fh.charsOf b := List.filterMap_append ..
theorem natI_app (a b : List Nat) : (natI (a ++ b)).map V.int = (natI a).map V.int ++ (natI b).map V.int := by unfold natI; rw [List.map_append, List.map_append]
theorem chars_len (a : Fh.Row) : (Fh.charsOf a).length ≤ a.length := List.length_filterMap_le ..
section
variable {P : Program} {w : World} {K : PySem.W.Frag} {mg : Str → Option Value} {base : Heap}
def sp_codes_of (K : PySem.W.Frag) : Sp := fun vs H Q _ => ∃ (pl : Addr) (us : List V) (row : Fh.Row), vs = [.ref pl] ∧ SqL K H pl us ∧ DpAll K H us (row.map encP) ∧ row.length ≤ 900000 ∧
  ∀ p H', Same H H' → LI K H' p (natI (Fh.charsOf row)) → Q (.ref p) H'
theorem ok_codes_of (T : Txt K mg) : FnOk P w K mg base CX0 1 T.f_codes_of.a T.f_codes_of.fd ["pieces"] (sp_codes_of K) := by
  refine T.f_codes_of.F.ok sc_codes_of (fun vs H Q E h => ?_) (fun cdv A outer s H vs Q E hr h => ⟨_, (pss_one (ps_ret (pe_lc (own := [("kind", 1), ("number", 2)]) rfl sc_codes_of.nd (piLK K (pv 0)) (blkOk_by (own := [("kind", 1), ("number", 2)]) (N := ["pieces", "kind", "number"]) (sc := defScope s_codes_of) (by decide +kernel)) (fun _ _ _ _ _ => (gtK K (n := 2) rfl (pgs_cons (pg_name (i := 1) sc_codes_of.nd rfl (Or.inl rfl)) (pgs_cons (pg_name (i := 2) sc_codes_of.nd rfl (Or.inl rfl)) pgs_nil)))) (fun _ _ _ _ _ => (pts_one (pt_cmpR op_eq (pv 1) (pe_gi T.c_CHARACTER) (nomark _)))) (fun _ _ _ _ _ => (pv 2))))), ?_⟩)
  · obtain ⟨_, _, _, rfl, _⟩ := h; rfl
  · obtain ⟨pl, us, row, rfl, hL, hD, hrl, k⟩ := h
    have el : us.length = row.length := by rw [dps_len hD, List.length_map]
    walk_at "u"
    refine c_list (K := K) (a := pl) (xs := us) (fun D j H' => H' D = some (.lst ((natI (Fh.charsOf (row.take j))).map V.int)) ∧ Same H H') hL (fun D hD => ⟨upd_same, same_new hD⟩) (fun D j H' hD _ ⟨_, s⟩ => same_l s hL) ?_ ?_
    · rintro D j x H' hDn hx ⟨hu, s6⟩
      have hi : j < row.length := by have := (List.getElem?_eq_some_iff.mp hx).1; rw [el] at this; exact this
      obtain ⟨v, hv2, hd⟩ := dps_get hD (i := j) (d := encP row[j]) (by rw [List.getElem?_map, List.getElem?_eq_getElem hi]; rfl)
      rw [hx] at hv2
      cases hv2
      have et : row.take (j + 1) = row.take j ++ [row[j]] := by rw [List.take_add_one, List.getElem?_eq_getElem hi]; rfl
      have el2 := chars_len (row.take j)
      rw [List.length_take] at el2
      generalize row[j] = p at hd et
      obtain ⟨a, rfl, ha⟩ := dp_piece (dp_same s6 hd)
      refine u_gt ha rfl ?_
      walk_at "u"
      refine ⟨rfl, ?_⟩
      have skip : Fh.charsOf [p] = [] → H' D = some (.lst ((natI (Fh.charsOf (row.take (j + 1)))).map V.int)) ∧ Same H H' := fun z => ⟨by rw [et, chars_app, z, List.append_nil]; exact hu, s6⟩
      walk_at "u"
      cases p with
      | char c =>
        refine ite_d (fun _ => ?_) (fun h => absurd rfl h)
        walk_at "u"
        refine ⟨_, hu, size_less (by rw [map_int_len, natI_len]; omega), ?_, same_mut s6 hDn⟩
        rw [et, chars_app, natI_app]
        exact upd_same
      | open_ n =>
        refine ite_d (fun h => absurd h (show ¬ (1 : Int) = 0 by decide)) (fun _ => ?_)
        exact skip rfl
      | close n =>
        refine ite_d (fun h => absurd h (show ¬ (2 : Int) = 0 by decide)) (fun _ => ?_)
        exact skip rfl
      | alone n =>
        refine ite_d (fun h => absurd h (show ¬ (3 : Int) = 0 by decide)) (fun _ => ?_)
        exact skip rfl
    · rintro D H' hDn ⟨hu, s6⟩
      rw [el, List.take_length] at hu
      exact k D H' s6 (Or.inl (Or.inl hu))
end
end Sr
namespace Sr
open PySem PySem.Spec PyProof.Rows L2
open Fh (Bytes)
open Sm (blankP moreM leadN lead_yes lead_no)
theorem eqv_piece (p : Fh.Piece) : PyData.eqv (encP p) (.tuple [.int 0, .int 32]) = blankP p := by
  rw [encP_eq, PyData.eqv, PyData.eqvAll, PyData.eqvAll, PyData.eqvAll, PyData.eqv, PyData.eqv]
  unfold blankP Fh.BLANK
  cases p with
  | char c =>
    show ((0 : Int) == 0 && (((c : Int) == 32) && true)) = _
    by_cases h : c = 32
    · subst h; rfl
    · have e1 : ((c : Int) == 32) = false := by rw [beq_eq_false_iff_ne]; omega
      have e2 : (Fh.Piece.char c == Fh.Piece.char 32) = false := by rw [beq_eq_false_iff_ne]; intro z; cases z; exact h rfl
      rw [e1, e2]; rfl
  | open_ n => rfl
  | close n => rfl
  | alone n => rfl
theorem shaped_piece (p : Fh.Piece) : SeqAt.shaped (encP p) = true := by
  rw [encP_eq]
  simp [SeqAt.shaped, PyData.canLay0, PyData.canLayAll0, PyData.depth, PyData.depthAll]
section
variable {P : Program} {w : World} {K : PySem.W.Frag} {mg : Str → Option Value} {base : Heap}
def sp_has_more (K : PySem.W.Frag) : Sp := fun vs H Q _ => ∃ (pl : Addr) (us : List V) (row : Fh.Row), vs = [.ref pl] ∧ SqL K H pl us ∧ DpAll K H us (row.map encP) ∧ ∀ r, r = moreM row → Q (.bl r) H
theorem ok_has_more (T : Txt K mg) : FnOk P w K mg base CX0 1 T.f_has_more.a T.f_has_more.fd ["pieces"] (sp_has_more K) := by
  refine T.f_has_more.F.ok sc_has_more (fun vs H Q E h => ?_) (fun cdv A outer s H vs Q E hr h => ⟨_, (pss_cons (ps_for PassesOwn.never rfl (piLK K (pv 0)) (gtK K (n := 2) rfl (pgs_cons (pg_name (i := 1) sc_has_more.nd rfl (Or.inl rfl)) (pgs_cons (pg_name (i := 2) sc_has_more.nd rfl (Or.inl rfl)) pgs_nil))) (pss_one (ps_if (PW.pt (pw_and (pt_cmpR op_eq (pv 1) (pe_gi T.c_CHARACTER) (nomark _)) (pw_and1 (pt_cmpR op_ne (pv 2) (pe_gi T.c_BLANK) (nomark _))))) (pss_one (ps_ret pe_bl)) pss_nil)))
 (pss_one (ps_ret pe_bl))), ?_⟩)
  · obtain ⟨_, _, _, rfl, _⟩ := h; rfl
  · obtain ⟨pl, us, row, rfl, hL, hD, k⟩ := h
    have el : us.length = row.length := by rw [dps_len hD, List.length_map]
    walk_at "u"
    refine f_list (K := K) (a := pl) (xs := us) (fun i σ H' => ∃ v1 v2, σ = [some (.ref pl), v1, v2] ∧ H' = H ∧ moreM row = moreM (row.drop i)) hL ⟨none, none, rfl, rfl, rfl⟩ (fun i σ H' _ ⟨_, _, _, e, _⟩ => by rw [e]; exact hL) ?_ ?_
    · rintro i x σ H' hx ⟨v1, v2, rfl, rfl, hb⟩
      have hi : i < row.length := by have := (List.getElem?_eq_some_iff.mp hx).1; rw [el] at this; exact this
      obtain ⟨v, hv2, hd⟩ := dps_get hD (i := i) (d := encP row[i]) (by rw [List.getElem?_map, List.getElem?_eq_getElem hi]; rfl)
      rw [hx] at hv2
      cases hv2
      rw [drop_at hi] at hb
      generalize row[i] = p at hd hb
      obtain ⟨a, rfl, ha⟩ := dp_piece hd
      refine u_gt ha rfl ?_
      walk_at "u"
      cases p with
      | char c =>
        have e : moreM (.char c :: row.drop (i + 1)) = (decide (c ≠ 32) || moreM (row.drop (i + 1))) := rfl
        rw [e] at hb
        refine ite_d (fun _ => ?_) (fun h => absurd rfl h)
        walk_at "u"
        refine ite_d (fun h => ?_) (fun h => ?_)
        · have h' : (c : Int) ≠ 32 := h
          walk_at "u"
          exact k _ (by rw [hb, decide_eq_true (show c ≠ 32 by omega)]; rfl)
        · have h' : ¬ (c : Int) ≠ 32 := h
          walk_at "u"
          exact ⟨_, _, rfl, rfl, by rw [hb, decide_eq_false (show ¬ c ≠ 32 by omega)]; rfl⟩
      | open_ n =>
        refine ite_d (fun h => absurd h (show ¬ (1 : Int) = 0 by decide)) (fun _ => ?_)
        walk_at "u"
        exact ⟨_, _, rfl, rfl, hb⟩
      | close n =>
        refine ite_d (fun h => absurd h (show ¬ (2 : Int) = 0 by decide)) (fun _ => ?_)
        walk_at "u"
        exact ⟨_, _, rfl, rfl, hb⟩
      | alone n =>
        refine ite_d (fun h => absurd h (show ¬ (3 : Int) = 0 by decide)) (fun _ => ?_)
        walk_at "u"
        exact ⟨_, _, rfl, rfl, hb⟩
    · rintro σ H' ⟨v1, v2, rfl, rfl, hb⟩
      walk_at "u"
      exact k _ (by rw [hb, el, List.drop_length]; rfl)
def sp_trimmed (K : PySem.W.Frag) : Sp := fun vs H Q _ => ∃ (pl : Addr) (us : List V) (row : Fh.Row) (b e j : Nat), vs = [.ref pl, .int b, .int e] ∧ SqL K H pl us ∧ DpAll K H us (row.map encP) ∧ row.length ≤ 900000 ∧ b ≤ j ∧ j < e ∧ e ≤ row.length ∧ (∃ p, row[j]? = some p ∧ blankP p = false) ∧
  ∀ p H', Same H H' → H' p = some (.tup [.int ((b + leadN (row.drop b) : Nat) : Int), .int ((e - leadN (row.take e).reverse : Nat) : Int)]) → Q (.ref p) H'
theorem ok_trimmed (T : Txt K mg) : FnOk P w K mg base CX0 1 T.f_trimmed.a T.f_trimmed.fd ["pieces", "begin", "end"] (sp_trimmed K) := by
  refine T.f_trimmed.F.ok sc_trimmed (fun vs H Q E h => ?_) (fun cdv A outer s H vs Q E hr h => ⟨_, (pss_cons (ps_while PassesOwn.never (pt_cmpR (eqDK K hr.units) (pe_ix (ixLK K) (pv 0) (pv 1) (fun _ _ => rfl)) (pe_tup (pa_cons (pe_gi T.c_CHARACTER) (pa_cons (pe_gi T.c_BLANK) pa_nil))) (nomark _)) (pss_one (ps_set (i := 1) sc_trimmed.nd rfl (Or.inl rfl) (pe_op op_add (pv 1) pe_int))))
 (pss_cons (ps_while PassesOwn.never (pt_cmpR (eqDK K hr.units) (pe_ix (ixLK K) (pv 0) (pe_op op_sub (pv 2) pe_int) (fun _ _ => rfl)) (pe_tup (pa_cons (pe_gi T.c_CHARACTER) (pa_cons (pe_gi T.c_BLANK) pa_nil))) (nomark _)) (pss_one (ps_set (i := 2) sc_trimmed.nd rfl (Or.inl rfl) (pe_op op_sub (pv 2) pe_int))))
 (pss_one (ps_ret (pe_tup (pa_cons (pv 1) (pa_cons (pv 2) pa_nil))))))), ?_⟩)
  · obtain ⟨_, _, _, _, _, _, rfl, _⟩ := h; rfl
  · obtain ⟨pl, us, row, b, e, j, rfl, hL, hD, hrl, hbj, hje, her, ⟨pj, hpj, hpb⟩, k⟩ := h
    have ask : ∀ (H1 : Hp) (Q' : VK) (i : Nat) (p : Fh.Piece) (v : V), Same H H1 → row[i]? = some p → us[i]? = some v → (∀ H2, Same H H2 → Q' (.bl (blankP p)) H2) → ∀ b, H1 b = none → rEqD K v (.ref b) (upd H1 b (.tup [.int 0, .int 32])) Q' := by
      intro H1 Q' i p v s1 hp hv hq b hb
      have s2 := same_then (o := .tup [.int 0, .int 32]) s1 hb
      obtain ⟨v2, hv2, hd⟩ := dps_get hD (i := i) (d := encP p) (by rw [List.getElem?_map, hp]; rfl)
      rw [hv] at hv2
      cases hv2
      refine ⟨_, _, dp_same s2 hd, dp_mk2 (SqT.of upd_same), shaped_piece p, by decide +kernel, ?_⟩
      rw [eqv_piece]
      exact hq _ s2
    have el : us.length = row.length := by rw [dps_len hD, List.length_map]
    have hjr : j < row.length := by omega
    walk_at "u"
    refine f_while (fun m σ H' => ∃ i : Nat, σ = [some (.ref pl), some (.int i), some (.int e)] ∧ Same H H' ∧ i ≤ j ∧ j - i = m ∧ b + leadN (row.drop b) = i + leadN (row.drop i)) (m := j - b) ⟨b, rfl, Same.refl _, hbj, rfl, rfl⟩ ?_
    rintro m σ H1 ⟨i, rfl, s1, hij, hm, hb⟩
    have hir : i < row.length := by omega
    have hiu : us[i]? = some (us[i]'(by omega)) := List.getElem?_eq_getElem (by omega)
    have hip : row[i]? = some row[i] := List.getElem?_eq_getElem hir
    rw [drop_at hir] at hb
    generalize hpe : row[i] = p at hip hb
    walk_at "u"
    refine u_ixL (same_l s1 hL) (atI_nat hiu) ?_
    walk_at "u"
    refine ⟨by show 2 ≤ sizeLine; decide, fun q hq => ?_⟩
    refine ask H1 _ i p _ s1 hip hiu (fun H2 s2 => ?_) q hq
    refine u_bl ?_
    cases hbp : blankP p with
    | true =>
      rw [lead_yes hbp] at hb
      refine ite_t ?_
      have hne : i ≠ j := fun z => by
        subst z
        rw [hpj] at hip
        cases hip
        rw [hpb] at hbp; cases hbp
      refine u_body ?_
      walk_at "u"
      exact ⟨j - (i + 1), by omega, i + 1, by rfl, s2, by omega, rfl, by omega⟩
    | false =>
      rw [lead_no hbp] at hb
      refine ite_f ?_
      walk_at "u"
      refine f_while (fun m σ H' => ∃ n : Nat, σ = [some (.ref pl), some (.int i), some (.int n)] ∧ Same H H' ∧ j < n ∧ n ≤ e ∧ n - j = m ∧ e - leadN (row.take e).reverse = n - leadN (row.take n).reverse) (m := e - j) ⟨e, rfl, s2, hje, Nat.le_refl _, rfl, rfl⟩ ?_
      rintro m2 σ H3 ⟨n, rfl, s3, hjn, hne, hm2, he⟩
      obtain ⟨n, rfl⟩ : ∃ n', n = n' + 1 := ⟨n - 1, by omega⟩
      have hnr : n < row.length := by omega
      have hnu : us[n]? = some (us[n]'(by omega)) := List.getElem?_eq_getElem (by omega)
      have hnp : row[n]? = some row[n] := List.getElem?_eq_getElem hnr
      have etk : (row.take (n + 1)).reverse = row[n] :: (row.take n).reverse := by
        rw [List.take_succ_eq_append_getElem hnr, List.reverse_append]; rfl
      rw [etk] at he
      generalize row[n] = pn at hnp he
      walk_at "u"
      refine u_ixL (same_l s3 hL) (at_of (j := n) (by omega) hnu) ?_
      walk_at "u"
      refine ⟨by show 2 ≤ sizeLine; decide, fun q hq => ?_⟩
      refine ask H3 _ n pn _ s3 hnp hnu (fun H4 s4 => ?_) q hq
      refine u_bl ?_
      cases hbn : blankP pn with
      | true =>
        rw [lead_yes hbn] at he
        refine ite_t ?_
        have hnj : n ≠ j := fun z => by
          subst z
          rw [hpj] at hnp
          cases hnp
          rw [hpb] at hbn; cases hbn
        refine u_body ?_
        walk_at "u"
        refine ⟨n - j, by omega, n, ?_, s4, by omega, by omega, rfl, by omega⟩
        show [_, _, some (V.int (((n + 1 : Nat) : Int) - 1))] = _
        rw [show ((n + 1 : Nat) : Int) - 1 = (n : Int) by omega]
      | false =>
        rw [lead_no hbn] at he
        refine ite_f ?_
        walk_at "u"
        refine ⟨by show 2 ≤ sizeLine; decide, fun q hq => ?_⟩
        refine k q _ (same_then s4 hq) ?_
        rw [show b + leadN (row.drop b) = i by omega, he]
        exact upd_same
end
end Sr
namespace Sr
open PySem PySem.Spec PyProof.Rows L2
open Fh (Bytes)
theorem decI_dec {R : Fh.Rules} {W : List Nat} {p : Nat} (h0 : p ≠ 0) (h1 : p < W.length) : Fh.decides R W p = R.rules.findIdx? fun r => Fh.fitsHere R r (W.take p).reverse (W.drop p) := by
  unfold Fh.decides
  rw [if_neg (fun z => z.elim h0 (fun z => by omega))]
section
variable {P : Program} {w : World} {K : PySem.W.Frag} {mg : Str → Option Value} {base : Heap}
theorem open_at {row : Fh.Row} {i : Nat} {p : Fh.Piece} (h : row[i]? = some p) : Sm.isOpenAt row i = decide (kindP p = 1) := by
  unfold Sm.isOpenAt
  rw [h]
  cases p <;> rfl
def sp_cut_place (K : PySem.W.Frag) : Sp := fun vs H Q _ => ∃ (pl : Addr) (us : List V) (row : Fh.Row) (s e : Nat), vs = [.ref pl, .int s, .int e] ∧ SqL K H pl us ∧ DpAll K H us (row.map encP) ∧ row.length ≤ 900000 ∧ s < e ∧ e ≤ row.length ∧ ∀ r, r = ((Sm.cutPl row (s + 1) (e - s - 1) : Nat) : Int) → Q (.int r) H
theorem ok_cut_place (T : Txt K mg) : FnOk P w K mg base CX0 1 T.f_cut_place.a T.f_cut_place.fd ["pieces", "before", "behind"] (sp_cut_place K) := by
  refine T.f_cut_place.F.ok sc_cut_place (fun vs H Q E h => ?_) (fun cdv A outer s H vs Q E hr h => ⟨_, (pss_cons (ps_for PassesOwn.never rfl (pi_range2 rfl T.b_range (pa_cons (pe_op op_add (pv 1) pe_int) (pa_cons (pv 2) pa_nil))) (pg_name (i := 3) sc_cut_place.nd rfl (Or.inl rfl)) (pss_one (ps_if (pt_cmpR op_eq (pe_ix (ixTK K) (pe_ix (ixLK K) (pv 0) (pv 3) (fun _ _ => rfl)) pe_int (fun _ _ => rfl)) (pe_gi T.c_OPENS) (nomark _)) (pss_one (ps_ret (pv 3))) pss_nil)))
 (pss_one (ps_ret (pv 2)))), ?_⟩)
  · obtain ⟨_, _, _, _, _, rfl, _⟩ := h; rfl
  · obtain ⟨pl, us, row, s, e, rfl, hL, hD, hrl, hse, her, k⟩ := h
    have el : us.length = row.length := by rw [dps_len hD, List.length_map]
    generalize hX : Sm.cutPl row (s + 1) (e - s - 1) = X at k
    walk_at "u"
    refine f_rng2 (fun i σ H' => ∃ v3, σ = [some (.ref pl), some (.int s), some (.int e), v3] ∧ H' = H ∧ Sm.cutPl row (s + 1 + i) (e - s - 1 - i) = X) ⟨by omega, by omega, by omega, by omega⟩ ⟨none, rfl, rfl, hX⟩ ?_ ?_
    · rintro i σ H' hi ⟨v3, rfl, rfl, hb⟩
      have hi2 : s + 1 + i < e := by omega
      have hir : s + 1 + i < row.length := by omega
      obtain ⟨n, hn⟩ : ∃ n, e - s - 1 - i = n + 1 := ⟨e - s - 1 - i - 1, by omega⟩
      rw [hn, Sm.cutPl, open_at (List.getElem?_eq_getElem hir)] at hb
      obtain ⟨v, hv, hd⟩ := dps_get hD (i := s + 1 + i) (d := encP row[s + 1 + i]) (by rw [List.getElem?_map, List.getElem?_eq_getElem hir]; rfl)
      generalize row[s + 1 + i] = p at hb hd
      obtain ⟨a, rfl, ha⟩ := dp_piece hd
      walk_at "u"
      refine u_ixL hL (at_of (j := s + 1 + i) (by omega) hv) ?_
      walk_at "u"
      refine u_ixT ha rfl ?_
      walk_at "u"
      refine ite_d (fun h => ?_) (fun h => ?_)
      · rw [if_pos (decide_eq_true h)] at hb
        walk_at "u"
        exact k _ (by rw [← hb]; omega)
      · rw [if_neg (by rw [decide_eq_false h]; decide)] at hb
        walk_at "u"
        refine ⟨_, rfl, rfl, ?_⟩
        have e1 : e - s - 1 - (i + 1) = n := by omega
        rw [e1]
        exact hb
    · rintro σ H' ⟨v3, rfl, rfl, hb⟩
      walk_at "u"
      refine k _ ?_
      have e1 : ((e : Int) - ((s : Int) + 1)).toNat = e - s - 1 := by omega
      rw [e1, Nat.sub_self] at hb
      have hb2 : s + 1 + (e - s - 1) = X := hb
      omega
def sp_cuts_of (K : PySem.W.Frag) : Sp := fun vs H Q _ => ∃ (pl : Addr) (us : List V) (row : Fh.Row) (v : V) (R : Fh.Rules), vs = [.ref pl, v] ∧ SqL K H pl us ∧ DpAll K H us (row.map encP) ∧ row.length ≤ 900000 ∧ RuAt K H v R ∧ GoodR R ∧
  ∀ p H', Same H H' → H' p = some (.lst ((natI (Fh.cutsOf R row)).map V.int)) → Q (.ref p) H'
theorem ok_cuts_of (T : Txt K mg) : FnOk P w K mg base CX0 6 T.f_cuts_of.a T.f_cuts_of.fd ["pieces", "ruling"] (sp_cuts_of K) := by
  refine T.f_cuts_of.F.ok sc_cuts_of (fun vs H Q E h => ?_) (fun cdv A outer s H vs Q E hr h => ⟨_, (pss_cons (ps_setLc (i := 2) (own := [("at", 6), ("piece", 7)]) rfl sc_cuts_of.nd rfl rfl (sw_true rfl rfl rfl (by decide +kernel)) (piEK K rfl T.b_enumerate (pa_cons (pv 0) pa_nil)) (blkOk_by (own := [("at", 6), ("piece", 7)]) (N := ["pieces", "ruling", "spots", "decided", "found", "place", "at", "piece"]) (sc := defScope s_cuts_of) (by decide +kernel)) (fun _ _ _ _ _ => (gtK K (n := 2) rfl (pgs_cons (pg_name (i := 6) sc_cuts_of.nd rfl (Or.inl rfl)) (pgs_cons (pg_name (i := 7) sc_cuts_of.nd rfl (Or.inl rfl)) pgs_nil)))) (fun _ _ _ _ _ => (pts_one (pt_cmpR op_eq (pe_ix (ixTK K) (pv 7) pe_int (fun _ _ => rfl)) (pe_gi T.c_CHARACTER) (nomark _)))) (fun _ _ _ _ _ => (pv 6)))
 (pss_cons (ps_par (i := 3) (j := 4) (by rfl) sc_cuts_of.nd rfl rfl (by decide) rfl rfl (pa_cons (pe_call (ok_deciding T) (hr.mono (by decide)) rfl T.f_deciding.g T.f_deciding.F.kp T.f_deciding.b .nil pass0 (pa_cons (pe_call (ok_codes_of T) (hr.mono (by decide)) rfl T.f_codes_of.g T.f_codes_of.F.kp T.f_codes_of.b .nil pass0 (pa_cons (pv 0) pa_nil)) (pa_cons (pv 1) pa_nil))) (pa_cons (pe_lst pa_nil) pa_nil)) (by rfl))
 (pss_cons (ps_for PassesOwn.never rfl (pi_range2 rfl T.b_range (pa_cons pe_int (pa_cons (pe_callB (cr_len K) rfl T.b_len PySem.boot_len (pa_cons (pv 2) pa_nil)) pa_nil))) (pg_name (i := 5) sc_cuts_of.nd rfl (Or.inl rfl)) (pss_one (ps_if (PW.pt (pw_and (pt_cmpR op_ge (pe_ix (ixLK K) (pv 3) (pv 5) (fun _ _ => rfl)) pe_int (nomark _)) (pw_and1 (pt_val (pe_ix (ixTK K) (pe_ix (ixLK K) (pe_ix (ixTK K) (pv 1) pe_int (fun _ _ => rfl)) (pe_ix (ixLK K) (pv 3) (pv 5) (fun _ _ => rfl)) (fun _ _ => rfl)) pe_int (fun _ _ => rfl)))))) (pss_one (ps_expr (bmK K PySem.F.plainAttrs_list PySem.F.slot_list_append PySem.F.type_list_append mt_append (pv 4) (pa_cons (pe_call (ok_cut_place T) (hr.mono (by decide)) rfl T.f_cut_place.g T.f_cut_place.F.kp T.f_cut_place.b .nil pass0 (pa_cons (pv 0) (pa_cons (pe_ix (ixLK K) (pv 2) (pe_op op_sub (pv 5) pe_int) (fun _ _ => rfl)) (pa_cons (pe_ix (ixLK K) (pv 2) (pv 5) (fun _ _ => rfl)) pa_nil)))) pa_nil)))) pss_nil)))
 (pss_one (ps_ret (pv 4)))))), ?_⟩)
  · obtain ⟨_, _, _, _, _, rfl, _⟩ := h; rfl
  · obtain ⟨pl, us, row, v, R, rfl, hL, hD, hrl, hRu, hG, k⟩ := h
    have el : us.length = row.length := by rw [dps_len hD, List.length_map]
    rw [Sm.cuts_eq] at k
    walk_at "u"
    refine c_enum (K := K) (a := pl) (xs := us) (fun D j H' => H' D = some (.lst ((natI (Sm.spotsFrom 0 (row.take j))).map V.int)) ∧ Same H H') hL (fun D hD => ⟨upd_same, same_new hD⟩) (fun D j H' hD _ ⟨_, s⟩ => same_l s hL) ?_ ?_
    · rintro D j x H' t hDn hx ⟨hu, s6⟩ ht
      have hi : j < row.length := by have := (List.getElem?_eq_some_iff.mp hx).1; rw [el] at this; exact this
      obtain ⟨v2, hv2, hd⟩ := dps_get hD (i := j) (d := encP row[j]) (by rw [List.getElem?_map, List.getElem?_eq_getElem hi]; rfl)
      rw [hx] at hv2
      cases hv2
      have et : Sm.spotsFrom 0 (row.take (j + 1)) = Sm.spotsFrom 0 (row.take j) ++ Sm.spotsFrom j [row[j]] := by
        rw [List.take_add_one, List.getElem?_eq_getElem hi, Option.toList_some, Sm.spots_app, List.length_take, Nat.min_eq_left (by omega), Nat.zero_add]
      have el2 := Sm.spots_len (row.take j) 0
      have el3 := chars_len (row.take j)
      rw [List.length_take] at el3
      have s7 := same_then (o := .tup [.int (j : Nat), x]) s6 ht
      have hu7 := (same_new (o := .tup [.int (j : Nat), x]) ht) _ _ hu
      generalize row[j] = p at hd et
      obtain ⟨a, rfl, ha⟩ := dp_piece (dp_same s7 hd)
      have skip : Sm.spotsFrom j [p] = [] → upd H' t (.tup [.int (j : Nat), .ref a]) D = some (HO.lst ((natI (Sm.spotsFrom 0 (row.take (j + 1)))).map V.int)) ∧ Same H (upd H' t (.tup [.int (j : Nat), .ref a])) := fun z => ⟨by rw [et, z, List.append_nil]; exact hu7, s7⟩
      refine u_gt (SqT.of upd_same) rfl ?_
      walk_at "u"
      refine ⟨rfl, ?_⟩
      walk_at "u"
      refine u_ixT ha rfl ?_
      walk_at "u"
      cases p with
      | char c =>
        refine ite_d (fun _ => ?_) (fun h => absurd rfl h)
        walk_at "u"
        refine ⟨_, hu7, size_less (by rw [map_int_len, natI_len]; omega), ?_, same_mut s7 hDn⟩
        rw [et, natI_app]
        exact upd_same
      | open_ n =>
        refine ite_d (fun h => absurd h (show ¬ (1 : Int) = 0 by decide)) (fun _ => ?_)
        exact skip rfl
      | close n =>
        refine ite_d (fun h => absurd h (show ¬ (2 : Int) = 0 by decide)) (fun _ => ?_)
        exact skip rfl
      | alone n =>
        refine ite_d (fun h => absurd h (show ¬ (3 : Int) = 0 by decide)) (fun _ => ?_)
        exact skip rfl
    · rintro sa H1 hDn ⟨hu, s1⟩
      rw [el, List.take_length] at hu
      walk_at "u"
      refine ⟨pl, us, row, rfl, same_l s1 hL, dps_same s1 hD, hrl, fun ca H2 s2 hca => ?_⟩
      have s12 := s1.trans s2
      have hcl := chars_len row
      walk_at "u"
      refine ⟨ca, v, R, Fh.charsOf row, rfl, hca, by omega, hRu.same s12, hG.ok, fun da H3 s3 hda => ?_⟩
      have s13 := s12.trans s3
      walk_at "u"
      refine ⟨by show 0 ≤ sizeLine; decide, fun fa hfa => ?_⟩
      have hsp3 : SqL K H3 sa ((natI (Sm.spotsFrom 0 row)).map V.int) := Or.inl (Or.inl (s3 _ _ (s2 _ _ hu)))
      have hRu3 := hRu.same s13
      have hL3 := same_l s13 hL
      have hD3 := dps_same s13 hD
      have n4 := same_new (o := .lst []) hfa
      have sl := Sm.spots_len row 0
      have sup := Sm.spots_up row 0
      have slt := Sm.spots_lt row 0
      generalize hsp : Sm.spotsFrom 0 row = sp at hsp3 sl sup slt k
      generalize hcs : Fh.charsOf row = cs at hda sl hcl k
      walk_at "u"
      refine u_lenL (same_l n4 hsp3) ?_
      walk_at "u"
      rw [map_int_len, natI_len]
      generalize hX : Sm.pairsC R cs row 0 sp = X at k
      refine f_rng2 (fun i σ H' => ∃ (v5 : Option V) (F : List Nat), σ = [some (.ref pl), some v, some (.ref sa), some (.ref da), some (.ref fa), v5, none, none] ∧ Same H3 H' ∧ H' fa = some (.lst ((natI F).map V.int)) ∧ X = F ++ Sm.pairsC R cs row i (sp.drop i) ∧ F.length ≤ i) ⟨by omega, by omega, by omega, by omega⟩
        ⟨none, [], rfl, n4, upd_same, hX.symm, Nat.le_refl _⟩ ?_ ?_
      · rintro i σ H5 hi ⟨v5, F, rfl, s5, hf5, hF, hFl⟩
        have hi1 : i + 1 < sp.length := by omega
        have hi0 : i < sp.length := by omega
        have ed : sp.drop i = sp[i] :: sp[i + 1] :: sp.drop (i + 2) := by rw [List.drop_eq_getElem_cons hi0, List.drop_eq_getElem_cons hi1]
        have ed1 : sp.drop (i + 1) = sp[i + 1] :: sp.drop (i + 2) := List.drop_eq_getElem_cons hi1
        have hlt : sp[i] < sp[i + 1] := List.pairwise_iff_getElem.mp sup i (i + 1) hi0 hi1 (by omega)
        have hle : sp[i + 1] < 0 + row.length := slt _ (List.getElem_mem hi1)
        rw [ed, Sm.pairs_two, ← ed1] at hF
        have hs0 : (natI sp)[i]? = some ((sp[i] : Nat) : Int) := natI_at (List.getElem?_eq_getElem hi0)
        have hs1 : (natI sp)[i + 1]? = some ((sp[i + 1] : Nat) : Int) := natI_at (List.getElem?_eq_getElem hi1)
        generalize sp[i] = x0 at hF hlt hs0
        generalize sp[i + 1] = x1 at hF hlt hle hs1
        have hat : ((List.range (cs.length + 1)).map fun i => Sm.decI R cs i)[i + 1]? = some (Sm.decI R cs (i + 1)) := by
          rw [List.getElem?_map, List.getElem?_range (by omega)]; rfl
        refine u_gn ?_
        refine u_if ?_
        refine tt_cut (Fh.cutsAt R cs (i + 1)) (fun QT q => ?_) (fun H6 s6 => ?_)
        · walk_at "u"
          refine u_ixL (same_l s5 hda) (at_int (j := i + 1) (by omega) hat) ?_
          walk_at "u"
          have hdd := decI_dec (R := R) (W := cs) (p := i + 1) (by omega) (by omega)
          have hat2 := hat
          have hdi : Sm.decI R cs (i + 1) = match Fh.decides R cs (i + 1) with | some i => (i : Int) | none => -1 := by unfold Sm.decI; rw [← hdd]; all_goals rfl
          rw [hdi]
          cases hdc : Fh.decides R cs (i + 1) with
          | none =>
            dsimp only
            refine ite_d (fun h => absurd h (by decide)) (fun _ => ?_)
            refine q _ _ (Same.refl _) ?_
            unfold Fh.cutsAt
            rw [hdc]
          | some n =>
            dsimp only
            rw [hdi, hdc] at hat2
            rw [hdc] at hdd
            have hat2 : ((List.range (cs.length + 1)).map fun i => Sm.decI R cs i)[i + 1]? = some (n : Int) := hat2
            have hn : n < R.rules.length := (List.findIdx?_eq_some_iff_findIdx_eq.mp hdd.symm).1
            obtain ⟨rp, dc, kvs, fl, rs, rfl, hrp, hdk, hC, hfl, hRD, hnd⟩ := hRu3.same s5
            obtain ⟨rv, hrv, hrd⟩ := dps_get hRD (i := n) (d := encRule R.rules[n]) (by rw [List.getElem?_map, List.getElem?_eq_getElem hn]; rfl)
            have hcut : Fh.cutsAt R cs (i + 1) = R.rules[n].cut := by
              unfold Fh.cutsAt
              rw [hdc]
              show (R.rules[n]?.map fun r => r.cut).getD false = _
              rw [List.getElem?_eq_getElem hn]; rfl
            generalize R.rules[n] = ru at hrd hcut
            obtain ⟨ra, vb, vh, rfl, hra, _, _⟩ := dp_rule hrd
            refine ite_d (fun _ => ?_) (fun h => absurd (show (0 : Int) ≤ (n : Int) by omega) h)
            walk_at "u"
            refine u_ixT hrp rfl ?_
            walk_at "u"
            refine u_ixL (same_l s5 hda) (at_int (j := i + 1) (by omega) hat2) ?_
            refine u_ixL hfl (atI_nat hrv) ?_
            walk_at "u"
            refine u_ixT hra rfl ?_
            refine u_bl ?_
            exact q _ _ (Same.refl _) hcut.symm
        · have s36 := s5.trans s6
          have hf6 := s6 _ _ hf5
          refine ite_b (fun hc => ?_) (fun hc => ?_)
          · rw [if_pos hc, ← List.append_assoc] at hF
            walk_at "u"
            refine ⟨u_lty hf6, ?_⟩
            walk_at "u"
            refine u_ixL (same_l s36 hsp3) (at_int (j := i) (by omega) hs0) ?_
            walk_at "u"
            refine u_ixL (same_l s36 hsp3) (at_int (j := i + 1) (by omega) hs1) ?_
            walk_at "u"
            refine ⟨pl, us, row, x0, x1, rfl, same_l s36 hL3, dps_same s36 hD3, hrl, hlt, by omega, fun r hr => ?_⟩
            subst hr
            walk_at "u"
            refine u_append hf6 (size_less (by rw [map_int_len, natI_len]; omega)) ?_
            walk_at "u"
            refine ⟨_, F ++ [Sm.cutPl row (x0 + 1) (x1 - x0 - 1)], rfl, same_mut s36 hfa, ?_, hF, by rw [List.length_append, List.length_singleton]; omega⟩
            rw [natI_snoc]
            exact upd_same
          · rw [if_neg (by rw [hc]; decide)] at hF
            walk_at "u"
            exact ⟨_, F, rfl, s36, hf6, hF, by omega⟩
      · rintro σ H5 ⟨v5, F, rfl, s5, hf5, hF, hFl⟩
        have e0 : ((sp.length : Int) - 1).toNat = sp.length - 1 := by omega
        rw [e0] at hF
        have hz : Sm.pairsC R cs row (sp.length - 1) (sp.drop (sp.length - 1)) = [] := by
          have hl : (sp.drop (sp.length - 1)).length ≤ 1 := by rw [List.length_drop]; omega
          generalize sp.drop (sp.length - 1) = z at hl
          cases z with
          | nil => rfl
          | cons a z =>
            cases z with
            | nil => rfl
            | cons b z => rw [List.length_cons, List.length_cons] at hl; omega
        rw [hz, List.append_nil] at hF
        subst hF
        walk_at "u"
        exact k fa H5 (s13.trans s5) hf5
end
end Sr
namespace Sr
open PySem PySem.Spec PyProof.Rows L2
open Fh (Bytes)
def encE (x : Sm.Pos) : PyData := .tuple [.int x.2.1, .int x.2.2]
theorem tupD_E (x : Sm.Pos) : tupD (encE x) = true := rfl
theorem sl_enc (us : List V) (b e : Nat) : cutV us (some (b : Int)) (some (e : Int)) = (us.take e).drop b := by
  rw [cut_nat, List.drop_take]
theorem dps_sl {K : PySem.W.Frag} {H : Hp} {us : List V} {row : Fh.Row} (b e : Nat) (h : DpAll K H us (row.map encP)) : DpAll K H ((us.take e).drop b) ((Sm.sl row b e).map encP) := by
  unfold Sm.sl
  rw [List.map_drop, List.map_take]
  exact dps_drop b (dps_take e h)
theorem pos_len (row : Fh.Row) : ∀ (l : List Nat) (g b : Nat), (Sm.posM row l g b).length ≤ l.length
  | [], _, _ => Nat.le_refl _
  | e :: l, g, b => by
    rw [Sm.posM]
    by_cases c : Sm.moreM (Sm.sl row b e) = true
    · rw [if_pos c, List.length_cons, List.length_cons]; have := pos_len row l (e - Sm.leadN (row.take e).reverse) e; omega
    · rw [if_neg c, List.length_cons]; have := pos_len row l g e; omega
theorem pairs_len (R : Fh.Rules) (cs : List Nat) (row : Fh.Row) : ∀ (sp : List Nat) (p : Nat), (Sm.pairsC R cs row p sp).length ≤ sp.length
  | [], _ => Nat.le_refl _
  | [_], _ => Nat.zero_le _
  | s :: s' :: t, p => by
    rw [Sm.pairs_two, List.length_append, List.length_cons]
    have := pairs_len R cs row (s' :: t) (p + 1)
    by_cases c : Fh.cutsAt R cs (p + 1) = true
    · rw [if_pos c, List.length_singleton]; omega
    · rw [if_neg c, List.length_nil]; omega
theorem li_any {K : PySem.W.Frag} {H : Hp} {a : Addr} {xs : List V} (h : H a = some (.lst xs)) : SqL K H a xs := Or.inl (Or.inl h)
theorem sl_get {row : Fh.Row} {b e m : Nat} {p : Fh.Piece} (h : (Sm.sl row b e)[m]? = some p) : row[b + m]? = some p ∧ b + m < e := by
  unfold Sm.sl at h
  rw [List.getElem?_drop, List.getElem?_take] at h
  by_cases c : b + m < e
  · rw [if_pos c] at h; exact ⟨h, c⟩
  · rw [if_neg c] at h; cases h
section
variable {P : Program} {w : World} {K : PySem.W.Frag} {mg : Str → Option Value} {base : Heap}
def sp_segments_of (K : PySem.W.Frag) : Sp := fun vs H Q _ => ∃ (pl : Addr) (us : List V) (row : Fh.Row) (v : V) (R : Fh.Rules), vs = [.ref pl, v] ∧ SqL K H pl us ∧ DpAll K H us (row.map encP) ∧ row.length ≤ 900000 ∧ RuAt K H v R ∧ GoodR R ∧
  ∀ p ws H', Same H H' → H' p = some (.lst ws) → DpAll K H' ws ((Sm.posOf R row).map encE) → H p = none → Q (.ref p) H'
theorem ok_segments_of (T : Txt K mg) : FnOk P w K mg base CX0 7 T.f_segments_of.a T.f_segments_of.fd ["pieces", "ruling"] (sp_segments_of K) := by
  refine T.f_segments_of.F.ok sc_segments_of (fun vs H Q E h => ?_) (fun cdv A outer s H vs Q E hr h => ⟨_, (pss_cons (ps_par (i := 2) (j := 3) (by rfl) sc_segments_of.nd rfl rfl (by decide) rfl rfl (pa_cons (pe_lst pa_nil) (pa_cons pe_int pa_nil)) (by rfl))
 (pss_cons (ps_for PassesOwn.never rfl (piLK K (pe_op op_cat (pe_call (ok_cuts_of T) (hr.mono (by decide)) rfl T.f_cuts_of.g T.f_cuts_of.F.kp T.f_cuts_of.b .nil pass0 (pa_cons (pv 0) (pa_cons (pv 1) pa_nil))) (pe_lst (pa_cons (pe_callB (cr_len K) rfl T.b_len PySem.boot_len (pa_cons (pv 0) pa_nil)) pa_nil)))) (pg_name (i := 4) sc_segments_of.nd rfl (Or.inl rfl)) (pss_cons (ps_if (pt_val (pe_call (ok_has_more T) (hr.mono (by decide)) rfl T.f_has_more.g T.f_has_more.F.kp T.f_has_more.b .nil pass0 (pa_cons (pe_slice (slLK K) (pv 0) (po_some (pv 3)) (po_some (pv 4))) pa_nil))) (pss_one (ps_expr (bmK K PySem.F.plainAttrs_list PySem.F.slot_list_append PySem.F.type_list_append mt_append (pv 2) (pa_cons (pe_call (ok_trimmed T) (hr.mono (by decide)) rfl T.f_trimmed.g T.f_trimmed.F.kp T.f_trimmed.b .nil pass0 (pa_cons (pv 0) (pa_cons (pv 3) (pa_cons (pv 4) pa_nil)))) pa_nil)))) pss_nil)
 (pss_one (ps_set (i := 3) sc_segments_of.nd rfl (Or.inl rfl) (pv 4)))))
 (pss_one (ps_ret (pv 2))))), ?_⟩)
  · obtain ⟨_, _, _, _, _, rfl, _⟩ := h; rfl
  · obtain ⟨pl, us, row, v, R, rfl, hL, hD, hrl, hRu, hG, k⟩ := h
    have el : us.length = row.length := by rw [dps_len hD, List.length_map]
    walk_at "u"
    refine ⟨by show 0 ≤ sizeLine; decide, fun fa hfa => ?_⟩
    have s1 := same_new (o := .lst []) hfa
    have hf1 : upd H fa (.lst []) fa = some (.lst []) := upd_same
    generalize upd H fa (.lst []) = H1 at s1 hf1
    walk_at "u"
    refine ⟨pl, us, row, v, R, rfl, same_l s1 hL, dps_same s1 hD, hrl, hRu.same s1, hG, fun ca H2 s2 hca => ?_⟩
    walk_at "u"
    have hL2 := same_l (s1.trans s2) hL
    refine u_lenL hL2 ?_
    walk_at "u"
    refine ⟨by show 1 ≤ sizeLine; decide, fun l1 hl1 => ?_⟩
    have n3 := same_new (o := .lst [.int us.length]) hl1
    have cu := Sm.cuts_up R row
    have cle : (Fh.cutsOf R row).length ≤ row.length := by
      rw [Sm.cuts_eq]
      refine Nat.le_trans (pairs_len _ _ _ _ _) ?_
      rw [Sm.spots_len]
      exact chars_len row
    refine ⟨ca, l1, _, _, rfl, rfl, n3 _ _ hca, upd_same, size_small (by rw [map_int_len, natI_len, List.length_singleton]; omega), fun ea hea => ?_⟩
    have s3 := same_then (o := .lst ((natI (Fh.cutsOf R row)).map V.int ++ [.int us.length])) n3 hea
    have e1 : (natI (Fh.cutsOf R row)).map V.int ++ [.int us.length] = (natI (Fh.cutsOf R row ++ [row.length])).map V.int := by rw [natI_snoc, el]
    have hea1 : upd (upd H2 l1 (.lst [.int us.length])) ea (.lst ((natI (Fh.cutsOf R row)).map V.int ++ [.int us.length])) ea = some (.lst ((natI (Fh.cutsOf R row ++ [row.length])).map V.int)) := by rw [← e1]; exact upd_same
    generalize upd (upd H2 l1 (.lst [.int us.length])) ea (.lst ((natI (Fh.cutsOf R row)).map V.int ++ [.int us.length])) = H3 at s3 hea1
    have hf3 := s3 _ _ (s2 _ _ hf1)
    have hne : ea ≠ fa := fun z => by
      rw [z, hf3] at hea1
      have := HO.lst.inj (Option.some.inj hea1)
      rw [natI_snoc] at this
      have q := congrArg List.length this
      rw [List.length_append, List.length_singleton] at q
      cases q
    have sH3 := (s1.trans s2).trans s3
    have up : (0 :: (Fh.cutsOf R row ++ [row.length])).Pairwise (· ≤ ·) := by
      rw [← List.cons_append, List.pairwise_append]
      refine ⟨cu.1, List.pairwise_singleton .., fun a ha b hb => ?_⟩
      rw [List.mem_singleton] at hb
      subst hb
      rcases List.mem_cons.mp ha with rfl | ha
      · exact Nat.zero_le _
      · exact cu.2 a ha
    have allle : ∀ x ∈ Fh.cutsOf R row ++ [row.length], x ≤ row.length := fun x hx => by
      rcases List.mem_append.mp hx with hx | hx
      · exact cu.2 x hx
      · rw [List.mem_singleton] at hx; omega
    have elen : (Fh.cutsOf R row ++ [row.length]).length ≤ 900001 := by rw [List.length_append, List.length_singleton]; omega
    have hX : Sm.posOf R row = Sm.posM row (Fh.cutsOf R row ++ [row.length]) 0 0 := rfl
    generalize Sm.posOf R row = X at hX k
    generalize Fh.cutsOf R row ++ [row.length] = es at hea1 up allle elen hX
    refine f_listI (K := K) (a := ea) (ns := natI es) (fun i σ H' => ∃ (b g : Nat) (v4 : Option V) (ws : List V) (done : List Sm.Pos), σ = [some (.ref pl), some v, some (.ref fa), some (.int b), v4] ∧ Same H H' ∧ H' ea = some (.lst ((natI es).map V.int)) ∧ H' fa = some (.lst ws) ∧ DpAll K H' ws (done.map encE) ∧
      X = done ++ Sm.posM row (es.drop i) g b ∧ (b :: es.drop i).Pairwise (· ≤ ·) ∧ b ≤ row.length ∧ done.length ≤ i) (li_of hea1) ⟨0, 0, none, [], [], rfl, sH3, hea1, hf3, .nil, hX, up, Nat.zero_le _, Nat.le_refl _⟩ (fun i σ H' _ ⟨_, _, _, _, _, _, _, e, _⟩ => li_of e) ?_ ?_
    · rintro i z σ H4 hz ⟨b, g, v4, ws, done, rfl, s4, he4, hf4, hw4, hX4, hp4, hb4, hd4⟩
      have hi : i < es.length := by have := (List.getElem?_eq_some_iff.mp hz).1; rw [natI_len] at this; exact this
      rw [natI_at (List.getElem?_eq_getElem hi)] at hz
      cases hz
      have hel := allle es[i] (List.getElem_mem hi)
      rw [List.drop_eq_getElem_cons hi] at hX4 hp4
      generalize es[i] = e at hel hX4 hp4
      have hbe : b ≤ e := List.rel_of_pairwise_cons hp4 List.mem_cons_self
      have hp5 : (e :: es.drop (i + 1)).Pairwise (· ≤ ·) := (List.pairwise_cons.mp hp4).2
      rw [Sm.posM] at hX4
      have hL4 := same_l s4 hL
      have hD4 := dps_same s4 hD
      have wl : ws.length = done.length := by rw [dps_len hw4, List.length_map]
      refine u_gn ?_
      walk_at "u"
      refine u_slL hL4 fun q hq => ?_
      rw [sl_enc]
      have n5 := same_new (o := .lst ((us.take e).drop b)) hq
      walk_at "u"
      refine ⟨q, _, Sm.sl row b e, rfl, li_any upd_same, dps_sl b e (dps_same n5 hD4), fun r hr => ?_⟩
      have s5 := s4.trans n5
      have hf5 := n5 _ _ hf4
      have he5 := n5 _ _ he4
      have hw5 := dps_same n5 hw4
      generalize upd H4 q (.lst ((us.take e).drop b)) = H5 at s5 hf5 he5 hw5
      walk_at "u"
      refine ite_b (fun hm => ?_) (fun hm => ?_)
      · have hmm : Sm.moreM (Sm.sl row b e) = true := hr.symm.trans hm
        rw [if_pos hmm] at hX4
        obtain ⟨pp, hpp, hpb⟩ := Sm.more_solid hmm
        obtain ⟨m, hmg⟩ := List.getElem?_of_mem hpp
        have hg2 := sl_get hmg
        walk_at "u"
        refine ⟨u_lty hf5, ?_⟩
        walk_at "u"
        refine ⟨pl, us, row, b, e, b + m, rfl, same_l s5 hL, dps_same s5 hD, hrl, by omega, hg2.2, hel, ⟨pp, hg2.1, hpb⟩, fun p H6 s6 hp => ?_⟩
        have hf6 := s6 _ _ hf5
        have he6 := s6 _ _ he5
        walk_at "u"
        refine u_append hf6 (size_less (by omega)) ?_
        have kt : Kt H6 (upd H6 fa (.lst (ws ++ [.ref p]))) := Kt.upd hf6 rfl
        walk_at "u"
        refine ⟨e, e - Sm.leadN (row.take e).reverse, _, ws ++ [.ref p], done ++ [(g, b + Sm.leadN (row.drop b), e - Sm.leadN (row.take e).reverse)], rfl, same_mut (s5.trans s6) hfa, (upd_ne hne).trans he6, upd_same, ?_, ?_, hp5, hel, by rw [List.length_append, List.length_singleton]; omega⟩
        · rw [List.map_append]
          exact dps_app (kt.ds (tupDs_map tupD_E _) (dps_same s6 hw5)) (dps_one (kt.d rfl (dp_mk2 (SqT.of hp))))
        · rw [List.append_assoc]; exact hX4
      · have hmm : ¬ Sm.moreM (Sm.sl row b e) = true := fun z => by rw [← hr, hm] at z; cases z
        rw [if_neg hmm] at hX4
        walk_at "u"
        exact ⟨e, g, _, ws, done, rfl, s5, he5, hf5, hw5, hX4, hp5, hel, by omega⟩
    · rintro σ H4 ⟨b, g, v4, ws, done, rfl, s4, he4, hf4, hw4, hX4, hp4, hb4, hd4⟩
      rw [natI_len, List.drop_length] at hX4
      have hX5 : X = done := by rw [hX4]; exact List.append_nil _
      walk_at "u"
      exact k fa ws H4 s4 hf4 (by rw [hX5]; exact hw4) hfa
end
end Sr
namespace Sr
open PySem PySem.Spec PyProof.Rows L2
open Fh (Bytes)
theorem byte_of {n : Nat} (h : n < 256) : ((UInt8.ofNat n).toNat : Int) = n := by rw [UInt8.toNat_ofNat', Nat.mod_eq_of_lt (by omega)]
theorem utf8_len (c : Nat) : (Fh.utf8 c).length ≤ 4 := by
  unfold Fh.utf8
  split
  · show 1 ≤ 4; decide
  · split
    · show 2 ≤ 4; decide
    · split
      · show 3 ≤ 4; decide
      · exact Nat.le_refl 4
theorem bI_map_app (a b : Bytes) : (bI (a ++ b)).map V.int = (bI a).map V.int ++ (bI b).map V.int := by rw [bI_app, List.map_append]
section
variable {P : Program} {w : World} {K : PySem.W.Frag} {mg : Str → Option Value} {base : Heap}
def sp_octets_of (K : PySem.W.Frag) : Sp := fun vs H Q _ => ∃ (c : Nat), vs = [.int c] ∧ c < 1114112 ∧ ∀ p H', Same H H' → H' p = some (.lst ((bI (Fh.utf8 c)).map V.int)) → Q (.ref p) H'
theorem ok_octets_of (T : Txt K mg) : FnOk P w K mg base CX0 1 T.f_octets_of.a T.f_octets_of.fd ["code"] (sp_octets_of K) := by
  refine T.f_octets_of.F.ok sc_octets_of (fun vs H Q E h => ?_) (fun cdv A outer s H vs Q E hr h => ⟨_, (pss_cons (ps_if (pt_cmpR op_lt (pv 0) pe_int (nomark _)) (pss_one (ps_ret (pe_lst (pa_cons (pv 0) pa_nil)))) pss_nil)
 (pss_cons (ps_if (pt_cmpR op_lt (pv 0) pe_int (nomark _)) (pss_one (ps_ret (pe_lst (pa_cons (pe_op op_add pe_int (pe_op op_fdiv (pv 0) pe_int)) (pa_cons (pe_op op_add pe_int (pe_op op_and (pv 0) pe_int)) pa_nil))))) pss_nil)
 (pss_cons (ps_if (pt_cmpR op_lt (pv 0) pe_int (nomark _)) (pss_one (ps_ret (pe_lst (pa_cons (pe_op op_add pe_int (pe_op op_fdiv (pv 0) pe_int)) (pa_cons (pe_op op_add pe_int (pe_op op_and (pe_op op_fdiv (pv 0) pe_int) pe_int)) (pa_cons (pe_op op_add pe_int (pe_op op_and (pv 0) pe_int)) pa_nil)))))) pss_nil)
 (pss_one (ps_ret (pe_lst (pa_cons (pe_op op_add pe_int (pe_op op_fdiv (pv 0) pe_int)) (pa_cons (pe_op op_add pe_int (pe_op op_and (pe_op op_fdiv (pv 0) pe_int) pe_int)) (pa_cons (pe_op op_add pe_int (pe_op op_and (pe_op op_fdiv (pv 0) pe_int) pe_int)) (pa_cons (pe_op op_add pe_int (pe_op op_and (pv 0) pe_int)) pa_nil)))))))))), ?_⟩)
  · obtain ⟨_, rfl, _⟩ := h; rfl
  · obtain ⟨c, rfl, hc, k⟩ := h
    walk_at "u"
    refine ite_d (fun h1 => ?_) (fun h1 => ?_)
    · rw [Sm.utf8_1 (by omega)] at k
      walk_at "u"
      refine ⟨by show 1 ≤ sizeLine; decide, fun q hq => ?_⟩
      refine k q _ (same_new hq) ?_
      show _ = some (HO.lst [.int ((UInt8.ofNat c).toNat : Nat)])
      rw [byte_of (by omega)]
      exact upd_same
    · walk_at "u"
      refine ite_d (fun h2 => ?_) (fun h2 => ?_)
      · rw [Sm.utf8_2 (by omega) (by omega)] at k
        walk_at "u"
        refine u_I (C := CDiv) ⟨by decide, by decide⟩ ?_
        walk_at "u"
        refine ⟨by show 2 ≤ sizeLine; decide, fun q hq => ?_⟩
        refine k q _ (same_new hq) ?_
        show _ = some (HO.lst [.int ((UInt8.ofNat (0xC0 + c / 64)).toNat : Nat), .int ((UInt8.ofNat (0x80 + c % 64)).toNat : Nat)])
        rw [byte_of (by omega), byte_of (by omega), bitAnd_m6, show ((0xC0 + c / 64 : Nat) : Int) = 192 + (c : Int) / 64 by omega, show ((0x80 + c % 64 : Nat) : Int) = 128 + (c : Int) % 64 by omega]
        exact upd_same
      · walk_at "un"
        generalize hz : (65536 : Int) = z
        walk_at "u"
        refine ite_d (fun h3 => ?_) (fun h3 => ?_)
        · rw [Sm.utf8_3 (by omega) (by omega)] at k
          walk_at "u"
          refine u_I (C := CDiv) ⟨by decide, by decide⟩ ?_
          walk_at "u"
          refine u_I (C := CDiv) ⟨by decide, by decide⟩ ?_
          walk_at "u"
          refine ⟨by show 3 ≤ sizeLine; decide, fun q hq => ?_⟩
          refine k q _ (same_new hq) ?_
          show _ = some (HO.lst [.int ((UInt8.ofNat (0xE0 + c / 4096)).toNat : Nat), .int ((UInt8.ofNat (0x80 + c / 64 % 64)).toNat : Nat), .int ((UInt8.ofNat (0x80 + c % 64)).toNat : Nat)])
          rw [byte_of (by omega), byte_of (by omega), byte_of (by omega), bitAnd_m6, bitAnd_m6, show ((0xE0 + c / 4096 : Nat) : Int) = 224 + (c : Int) / 4096 by omega, show ((0x80 + c / 64 % 64 : Nat) : Int) = 128 + (c : Int) / 64 % 64 by omega, show ((0x80 + c % 64 : Nat) : Int) = 128 + (c : Int) % 64 by omega]
          exact upd_same
        · rw [Sm.utf8_4 (by omega)] at k
          walk_at "u"
          refine u_I (C := CDiv) ⟨by decide, by decide⟩ ?_
          walk_at "u"
          refine u_I (C := CDiv) ⟨by decide, by decide⟩ ?_
          walk_at "u"
          refine u_I (C := CDiv) ⟨by decide, by decide⟩ ?_
          walk_at "u"
          refine ⟨by show 4 ≤ sizeLine; decide, fun q hq => ?_⟩
          refine k q _ (same_new hq) ?_
          show _ = some (HO.lst [.int ((UInt8.ofNat (0xF0 + c / 262144)).toNat : Nat), .int ((UInt8.ofNat (0x80 + c / 4096 % 64)).toNat : Nat), .int ((UInt8.ofNat (0x80 + c / 64 % 64)).toNat : Nat), .int ((UInt8.ofNat (0x80 + c % 64)).toNat : Nat)])
          rw [byte_of (by omega), byte_of (by omega), byte_of (by omega), byte_of (by omega), bitAnd_m6, bitAnd_m6, bitAnd_m6, show ((0xF0 + c / 262144 : Nat) : Int) = 240 + (c : Int) / 262144 by omega, show ((0x80 + c / 4096 % 64 : Nat) : Int) = 128 + (c : Int) / 4096 % 64 by omega, show ((0x80 + c / 64 % 64 : Nat) : Int) = 128 + (c : Int) / 64 % 64 by omega, show ((0x80 + c % 64 : Nat) : Int) = 128 + (c : Int) % 64 by omega]
          exact upd_same
/-! figures -/
theorem dec_figs (n : Nat) : bI (Fh.decimal n) = (Nat.toDigits 10 n).map fun c => (c.toNat : Int) := by
  unfold bI Fh.decimal
  rw [List.map_map]
  refine List.map_congr_left fun c hc => ?_
  have h := Nat.isDigit_of_mem_toDigits (by decide) (by decide) hc
  have h2 : c.toNat < 256 := by
    unfold Char.isDigit at h
    rw [Bool.and_eq_true, decide_eq_true_eq, decide_eq_true_eq] at h
    have h3 : c.toNat ≤ 57 := h.2
    omega
  exact byte_of h2
theorem str_figs (n : Nat) : ((toString ((n : Nat) : Int) : String) : Str).cps.toList.map (fun (c : Nat) => (c : Int)) = bI (Fh.decimal n) := by
  rw [dec_figs]
  have h := PySem.W.KIN.signs_num n
  show (Str.ofString (toString ((n : Nat) : Int))).cps.toList.map _ = _
  rw [h, List.map_map]
  rfl
theorem dec_len {n : Nat} (h : n ≤ 999) : (Fh.decimal n).length ≤ 3 := by
  unfold Fh.decimal
  rw [List.length_map]
  exact toDigits_len_pow (by decide) (by decide) (by omega)
theorem text_len {p : Fh.Piece} (h : Sm.goodP p) : p.text.length ≤ 6 := by
  cases p with
  | char c =>
    have := utf8_len c
    show (if c = 123 then [123, 123] else Fh.utf8 c).length ≤ 6
    by_cases e : c = 123
    · rw [if_pos e]; decide
    · rw [if_neg e]; omega
  | open_ n => have := dec_len h.2; show ([123, 43] ++ (Fh.decimal n ++ [125])).length ≤ 6; rw [List.length_append, List.length_append, List.length_singleton]; show 2 + _ ≤ 6; omega
  | close n => have := dec_len h.2; show ([123, 45] ++ (Fh.decimal n ++ [125])).length ≤ 6; rw [List.length_append, List.length_append, List.length_singleton]; show 2 + _ ≤ 6; omega
  | alone n => have := dec_len h.2; show ([123, 46] ++ (Fh.decimal n ++ [125])).length ≤ 6; rw [List.length_append, List.length_append, List.length_singleton]; show 2 + _ ≤ 6; omega
theorem rowText_len : ∀ {r : Fh.Row}, (∀ q ∈ r, Sm.goodP q) → (Fh.rowText r).length ≤ 6 * r.length
  | [], _ => Nat.le_refl _
  | p :: r, h => by
    have h1 := text_len (h p List.mem_cons_self)
    have h2 := rowText_len (r := r) (fun q hq => h q (List.mem_cons_of_mem _ hq))
    show (p.text ++ Fh.rowText r).length ≤ _
    rw [List.length_append, List.length_cons]
    omega
def markP : Fh.Piece → UInt8
  | .char _ => 0
  | .open_ _ => 43
  | .close _ => 45
  | .alone _ => 46
theorem tag_text {p : Fh.Piece} (h : p.isTag = true) : p.text = [123, markP p] ++ (Fh.decimal (numP p) ++ [125]) := by
  cases p with
  | char c => cases h
  | open_ n => rfl
  | close n => rfl
  | alone n => rfl
theorem tag_mark {p : Fh.Piece} (h : p.isTag = true) : ∃ j : Nat, kindP p = j ∧ ([.int 0, .int 43, .int 45, .int 46] : List V)[j]? = some (.int ((markP p).toNat : Nat)) := by
  cases p with
  | char c => cases h
  | open_ n => exact ⟨1, rfl, rfl⟩
  | close n => exact ⟨2, rfl, rfl⟩
  | alone n => exact ⟨3, rfl, rfl⟩
theorem num_log {n : Nat} (h : n ≤ 999) : (n : Int).natAbs.log2 < 1920 := by
  have : (n : Int).natAbs = n := Int.natAbs_natCast n
  rw [this]
  have h2 := Nat.log2_le_self n
  omega
def sp_piece_octets (K : PySem.W.Frag) : Sp := fun vs H Q _ => ∃ (v : V) (p : Fh.Piece), vs = [v] ∧ Dp K H v (encP p) ∧ Sm.goodP p ∧ ∀ q H', Same H H' → H' q = some (.lst ((bI p.text).map V.int)) → Q (.ref q) H'
theorem ok_piece_octets (T : Txt K mg) : FnOk P w K mg base CX0 2 T.f_piece_octets.a T.f_piece_octets.fd ["piece"] (sp_piece_octets K) := by
  refine T.f_piece_octets.F.ok sc_piece_octets (fun vs H Q E h => ?_) (fun cdv A outer s H vs Q E hr h => ⟨_, (pss_cons (ps_asg (pv 0) (gtK K (n := 2) rfl (pgs_cons (pg_name (i := 1) sc_piece_octets.nd rfl (Or.inl rfl)) (pgs_cons (pg_name (i := 2) sc_piece_octets.nd rfl (Or.inl rfl)) pgs_nil))))
 (pss_cons (ps_if (pt_cmpR op_ne (pv 1) (pe_gi T.c_CHARACTER) (nomark _)) (pss_one (ps_ret (pe_op op_cat (pe_op op_cat (pe_lst (pa_cons (pe_gi T.c_CURLY) (pa_cons (pe_ix (ixTK K) (pe_gr T.c_MARKS) (pv 1) (fun _ _ => rfl)) pa_nil))) (pe_lc (own := [("figure", 3)]) rfl sc_piece_octets.nd (pi_str (pe_callTy cr_strI rfl T.b_str (by decide +kernel) (pa_cons (pv 2) pa_nil))) (blkOk_by (own := [("figure", 3)]) (N := ["piece", "kind", "number", "figure"]) (sc := defScope s_piece_octets) (by decide +kernel)) (fun _ _ _ _ _ => (pg_name (i := 3) sc_piece_octets.nd rfl (Or.inl rfl))) (fun _ _ _ _ _ => pts_nil) (fun _ _ _ _ _ => (pe_callB cr_ord rfl T.b_ord (by decide +kernel) (pa_cons (pv 3) pa_nil))))) (pe_lst (pa_cons (pe_gi T.c_CURLY_END) pa_nil))))) pss_nil)
 (pss_one (ps_ret (pe_ifExp (pt_cmpR op_eq (pv 2) (pe_gi T.c_CURLY) (nomark _)) (pe_lst (pa_cons (pe_gi T.c_CURLY) (pa_cons (pe_gi T.c_CURLY) pa_nil))) (pe_call (ok_octets_of T) (hr.mono (by decide)) rfl T.f_octets_of.g T.f_octets_of.F.kp T.f_octets_of.b .nil pass0 (pa_cons (pv 2) pa_nil))))))), ?_⟩)
  · obtain ⟨_, _, rfl, _⟩ := h; rfl
  · obtain ⟨v, p, rfl, hD, hg, k⟩ := h
    obtain ⟨a, rfl, ha⟩ := dp_piece hD
    walk_at "u"
    refine u_gt ha rfl ?_
    walk_at "u"
    by_cases ht : p.isTag = true
    · have hk0 : kindP p ≠ 0 := by
        cases p with
        | char c => cases ht
        | open_ n => show (1 : Int) ≠ 0; decide
        | close n => show (2 : Int) ≠ 0; decide
        | alone n => show (3 : Int) ≠ 0; decide
      have hn : numP p ≤ 999 := by
        cases p with
        | char c => cases ht
        | open_ n => exact hg.2
        | close n => exact hg.2
        | alone n => exact hg.2
      obtain ⟨j, hj, hm⟩ := tag_mark ht
      rw [tag_text ht] at k
      refine ite_d (fun _ => ?_) (fun h => absurd hk0 h)
      walk_at "u"
      refine u_ixT (T.d_MARKS.sq _) (at_of hj hm) ?_
      walk_at "u"
      refine ⟨by show 2 ≤ sizeLine; decide, fun p1 h1 => ?_⟩
      have s1 := same_new (o := .lst [.int 123, .int ((markP p).toNat : Nat)]) h1
      have e1 : upd H p1 (.lst [.int 123, .int ((markP p).toNat : Nat)]) p1 = some (.lst [.int 123, .int ((markP p).toNat : Nat)]) := upd_same
      generalize upd H p1 (.lst [.int 123, .int ((markP p).toNat : Nat)]) = H1 at s1 e1
      walk_at "u"
      refine u_iStr ?_
      walk_at "u"
      refine ⟨(numP p : Nat), rfl, num_log hn, ?_⟩
      have hf := str_figs (numP p)
      generalize ((toString ((numP p : Nat) : Int) : String) : Str) = fs at hf
      have hfl : fs.cps.size = (Fh.decimal (numP p)).length := by
        have := congrArg List.length hf
        rw [List.length_map, bI_len] at this
        rw [← this]
        exact (Array.length_toList ..).symm
      have dl := dec_len hn
      refine c_str (fun D i H' => Same H1 H' ∧ H' D = some (.lst (((bI (Fh.decimal (numP p))).take i).map V.int))) (fun D hD => ⟨same_new hD, upd_same⟩) ?_ ?_
      · rintro D i c H' hD hc ⟨s2, hu⟩
        walk_at "u"
        refine ⟨rfl, ?_⟩
        walk_at "u"
        refine ⟨_, rfl, rfl, ?_⟩
        have hi : i < fs.cps.size := by
          rcases Nat.lt_or_ge i fs.cps.size with h | h
          · exact h
          · rw [Array.getElem?_eq_none h] at hc; cases hc
        have hget : (bI (Fh.decimal (numP p)))[i]? = some (c : Int) := by
          rw [← hf, List.getElem?_map, Array.getElem?_toList, hc]; rfl
        refine ⟨_, hu, size_less (by rw [List.length_map, List.length_take, bI_len]; omega), same_mut s2 hD, ?_⟩
        have et : (bI (Fh.decimal (numP p))).take (i + 1) = (bI (Fh.decimal (numP p))).take i ++ [(c : Int)] := by rw [List.take_add_one, hget]; rfl
        rw [et, List.map_append]
        exact upd_same
      · rintro D H' hD ⟨s2, hu⟩
        rw [hfl, ← bI_len, List.take_length] at hu
        refine ⟨p1, D, _, _, rfl, rfl, s2 _ _ e1, hu, size_small (by show 2 + _ ≤ 1000000; rw [List.length_map, bI_len]; omega), fun p2 h2 => ?_⟩
        have s3 := same_then (o := .lst ([.int 123, .int ((markP p).toNat : Nat)] ++ (bI (Fh.decimal (numP p))).map V.int)) (s1.trans s2) h2
        have e3 : upd H' p2 (.lst ([.int 123, .int ((markP p).toNat : Nat)] ++ (bI (Fh.decimal (numP p))).map V.int)) p2 = _ := upd_same
        generalize upd H' p2 (.lst ([.int 123, .int ((markP p).toNat : Nat)] ++ (bI (Fh.decimal (numP p))).map V.int)) = H3 at s3 e3
        walk_at "u"
        refine ⟨by show 1 ≤ sizeLine; decide, fun p3 h3 => ?_⟩
        refine ⟨p2, p3, _, _, rfl, rfl, (same_new h3) _ _ e3, upd_same, size_small (by rw [List.length_append, List.length_map, bI_len]; show 2 + _ + 1 ≤ 1000000; omega), fun p4 h4 => ?_⟩
        refine k p4 _ (same_then (same_then s3 h3) h4) ?_
        rw [bI_map_app, bI_map_app, ← List.append_assoc]
        exact upd_same
    · have hp : ∃ c, p = .char c := by
        cases p with
        | char c => exact ⟨c, rfl⟩
        | open_ n => exact absurd rfl ht
        | close n => exact absurd rfl ht
        | alone n => exact absurd rfl ht
      obtain ⟨c, rfl⟩ := hp
      have k : ∀ q H', Same H H' → H' q = some (.lst ((bI (if c = 123 then [123, 123] else Fh.utf8 c)).map V.int)) → Q (.ref q) H' := k
      refine ite_d (fun h => absurd rfl h) (fun _ => ?_)
      walk_at "u"
      refine ite_d (fun h => ?_) (fun h => ?_)
      · have hc : c = 123 := by have h' : (c : Int) = 123 := h; omega
        rw [if_pos hc] at k
        walk_at "u"
        refine ⟨by show 2 ≤ sizeLine; decide, fun q hq => ?_⟩
        exact k q _ (same_new hq) upd_same
      · have hc : ¬ c = 123 := by have h' : ¬ (c : Int) = 123 := h; omega
        rw [if_neg hc] at k
        walk_at "u"
        exact ⟨c, rfl, hg, fun q H' s hq => k q H' s hq⟩
def sp_row_octets (K : PySem.W.Frag) : Sp := fun vs H Q _ => ∃ (pl : Addr) (us : List V) (row : Fh.Row), vs = [.ref pl] ∧ SqL K H pl us ∧ DpAll K H us (row.map encP) ∧ (∀ q ∈ row, Sm.goodP q) ∧ row.length ≤ 150000 ∧
  ∀ q H', Same H H' → H' q = some (.lst ((bI (Fh.rowText row)).map V.int)) → Q (.ref q) H'
theorem ok_row_octets (T : Txt K mg) : FnOk P w K mg base CX0 3 T.f_row_octets.a T.f_row_octets.fd ["pieces"] (sp_row_octets K) := by
  refine T.f_row_octets.F.ok sc_row_octets (fun vs H Q E h => ?_) (fun cdv A outer s H vs Q E hr h => ⟨_, (pss_cons (ps_set (i := 1) sc_row_octets.nd rfl (Or.inl rfl) (pe_lst pa_nil))
 (pss_cons (ps_for PassesOwn.never rfl (piLK K (pv 0)) (pg_name (i := 2) sc_row_octets.nd rfl (Or.inl rfl)) (pss_one (ps_expr (bmK K PySem.F.plainAttrs_list PySem.F.slot_list_extend PySem.F.type_list_extend mt_extend (pv 1) (pa_cons (pe_call (ok_piece_octets T) (hr.mono (by decide)) rfl T.f_piece_octets.g T.f_piece_octets.F.kp T.f_piece_octets.b .nil pass0 (pa_cons (pv 2) pa_nil)) pa_nil)))))
 (pss_one (ps_ret (pv 1))))), ?_⟩)
  · obtain ⟨_, _, _, rfl, _⟩ := h; rfl
  · obtain ⟨pl, us, row, rfl, hL, hD, hg, hrl, k⟩ := h
    have el : us.length = row.length := by rw [dps_len hD, List.length_map]
    walk_at "u"
    refine ⟨by show 0 ≤ sizeLine; decide, fun fa hfa => ?_⟩
    have s1 := same_new (o := .lst []) hfa
    walk_at "u"
    refine f_list (K := K) (a := pl) (xs := us) (fun i σ H' => ∃ v2, σ = [some (.ref pl), some (.ref fa), v2] ∧ Same H H' ∧ H' fa = some (.lst ((bI (Fh.rowText (row.take i))).map V.int))) (same_l s1 hL) ⟨none, rfl, s1, upd_same⟩ (fun i σ H' _ ⟨_, _, s, _⟩ => same_l s hL) ?_ ?_
    · rintro i x σ H2 hx ⟨v2, rfl, s2, hf⟩
      have hi : i < row.length := by have := (List.getElem?_eq_some_iff.mp hx).1; rw [el] at this; exact this
      obtain ⟨v, hv2, hd⟩ := dps_get hD (i := i) (d := encP row[i]) (by rw [List.getElem?_map, List.getElem?_eq_getElem hi]; rfl)
      rw [hx] at hv2
      cases hv2
      have hgi := hg row[i] (List.getElem_mem hi)
      have et : row.take (i + 1) = row.take i ++ [row[i]] := by rw [List.take_add_one, List.getElem?_eq_getElem hi]; rfl
      have htl := rowText_len (r := row.take i) (fun q hq => hg q (List.mem_of_mem_take hq))
      rw [List.length_take] at htl
      generalize row[i] = p at hd hgi et
      walk_at "u"
      refine u_ext ?_
      walk_at "u"
      refine ⟨u_lty hf, ?_⟩
      walk_at "u"
      refine ⟨x, p, rfl, dp_same s2 hd, hgi, fun q H3 s3 hq => ?_⟩
      walk_at "u"
      have hpl := text_len hgi
      refine u_extend (s3 _ _ hf) hq (size_small (by rw [List.length_map, List.length_map, bI_len, bI_len]; omega)) ?_
      walk_at "u"
      refine ⟨_, rfl, same_mut (s2.trans s3) hfa, ?_⟩
      have e : Fh.rowText (row.take i ++ [p]) = Fh.rowText (row.take i) ++ p.text := by
        unfold Fh.rowText
        rw [List.flatMap_append, List.flatMap_singleton]
      rw [et, e, bI_map_app]
      exact upd_same
    · rintro σ H2 ⟨v2, rfl, s2, hf⟩
      rw [el, List.take_length] at hf
      walk_at "u"
      exact k fa H2 s2 hf
end
end Sr
namespace Sr
open PySem PySem.Spec PyProof.Rows L2
open Fh (Bytes)
inductive All2 {α : Type} (R : V → α → Prop) : List V → List α → Prop
  | nil : All2 R [] []
  | cons {v : V} {a : α} {vs : List V} {as : List α} (h : R v a) (r : All2 R vs as) : All2 R (v :: vs) (a :: as)
section
variable {α : Type} {R S : V → α → Prop}
theorem All2.len {vs : List V} {as : List α} (h : All2 R vs as) : vs.length = as.length := by
  induction h with
  | nil => rfl
  | cons _ _ ih => rw [List.length_cons, List.length_cons, ih]
theorem All2.get {vs : List V} {as : List α} (h : All2 R vs as) : ∀ {i : Nat} {a : α}, as[i]? = some a → ∃ v, vs[i]? = some v ∧ R v a := by
  induction h with
  | nil => intro i a e; cases e
  | cons h _ ih =>
    intro i a e
    cases i with
    | zero => cases e; exact ⟨_, rfl, h⟩
    | succ i => exact ih (i := i) e
theorem All2.app {vs ws : List V} {as bs : List α} (h : All2 R vs as) (g : All2 R ws bs) : All2 R (vs ++ ws) (as ++ bs) := by
  induction h with
  | nil => exact g
  | cons h _ ih => exact .cons h ih
theorem All2.one {v : V} {a : α} (h : R v a) : All2 R [v] [a] := .cons h .nil
theorem All2.imp {vs : List V} {as : List α} (f : ∀ v a, R v a → S v a) (h : All2 R vs as) : All2 S vs as := by
  induction h with
  | nil => exact .nil
  | cons h _ ih => exact .cons (f _ _ h) ih
theorem All2.drop {vs : List V} {as : List α} (h : All2 R vs as) : ∀ n, All2 R (vs.drop n) (as.drop n) := by
  induction h with
  | nil => intro n; rw [List.drop_nil, List.drop_nil]; exact .nil
  | cons h r ih =>
    intro n
    cases n with
    | zero => exact .cons h r
    | succ n => exact ih n
theorem All2.take {vs : List V} {as : List α} (h : All2 R vs as) : ∀ n, All2 R (vs.take n) (as.take n) := by
  induction h with
  | nil => intro n; rw [List.take_nil, List.take_nil]; exact .nil
  | cons h r ih =>
    intro n
    cases n with
    | zero => exact .nil
    | succ n => exact .cons h (ih n)
end
def isRaw : Fh.Line → Bool
  | .raw _ => true
  | .para _ => false
def LnD (K : PySem.W.Frag) (H : Hp) (us : List V) : Fh.Line → Prop
  | .raw t => us = (bI (124 :: t.flatMap Fh.utf8)).map V.int
  | .para r => DpAll K H us (r.map encP)
/-- a line of a document, as the program holds it -/
def LnAt (K : PySem.W.Frag) (H : Hp) (v : V) (l : Fh.Line) : Prop := ∃ (p c : Addr) (us : List V), v = .ref p ∧ SqT K H p [.bl (isRaw l), .ref c] ∧ H c = some (.lst us) ∧ LnD K H us l
theorem LnAt.same {K : PySem.W.Frag} {H H' : Hp} (s : Same H H') {v : V} {l : Fh.Line} (h : LnAt K H v l) : LnAt K H' v l := by
  obtain ⟨p, c, us, rfl, h1, h2, h3⟩ := h
  refine ⟨p, c, us, rfl, same_t s h1, s _ _ h2, ?_⟩
  cases l with
  | raw t => exact h3
  | para r => exact dps_same s h3
theorem same_del {H H' : Hp} {a : Addr} (s : Same H H') (h : H a = none) : Same H (del H' a) := fun b o hb => by
  have hne : b ≠ a := fun z => by rw [z, h] at hb; cases hb
  rw [del_ne hne]
  exact s b o hb
theorem same_del2 {H H' : Hp} {a : Addr} (s : Same H H') : Same (del H a) (del H' a) := fun b o hb => by
  by_cases hne : b = a
  · subst hne; rw [del_same] at hb; cases hb
  · rw [del_ne hne] at hb ⊢
    exact s b o hb
theorem del_upd {H : Hp} {a : Addr} {o : HO} : del (upd H a o) a = del H a := by
  funext b
  by_cases hne : b = a
  · subst hne; rw [del_same, del_same]
  · rw [del_ne hne, del_ne hne, upd_ne hne]
theorem del_same_upd {H : Hp} {a : Addr} {o : HO} : Same (del H a) (upd H a o) := fun b p hb => by
  by_cases hne : b = a
  · subst hne; rw [del_same] at hb; cases hb
  · rw [del_ne hne] at hb
    rw [upd_ne hne]
    exact hb
theorem del_sub {H : Hp} {a : Addr} : Same (del H a) H := fun b p hb => by
  by_cases hne : b = a
  · subst hne; rw [del_same] at hb; cases hb
  · rw [del_ne hne] at hb
    exact hb
theorem Kt.del {H : Hp} {a : Addr} {o : HO} (h : H a = some o) (n : isTF o = false) : Kt H (L2.del H a) := by
  refine ⟨fun p xs hp => ?_, fun p o' u hp => ?_⟩
  · rw [del_ne (fun z => by rw [z, h] at hp; cases hp; cases n)]; exact hp
  · rw [del_ne (fun z => by rw [z, h] at hp; cases hp; cases n)]; exact hp
/-- a line that is new: it stands without any list that was there -/
def LnF (K : PySem.W.Frag) (H H' : Hp) (v : V) (l : Fh.Line) : Prop := LnAt K H' v l ∧ ∀ la xs, H la = some (.lst xs) → LnAt K (del H' la) v l
def faultZ (x : Option Nat) : Int := match x with
  | some p => (p : Int)
  | none => -1
section
variable {P : Program} {w : World} {K : PySem.W.Frag} {mg : Str → Option Value} {base : Heap}
def sp_line_end (K : PySem.W.Frag) : Sp := fun vs H Q _ => ∃ (a : Addr) (b : Bytes) (i : Nat), vs = [.ref a, .int i] ∧ LI K H a (bI b) ∧ i ≤ b.length ∧ b.length ≤ 900000 ∧ ∀ r, r = ((i + Sm.lineN (b.drop i) : Nat) : Int) → Q (.int r) H
theorem ok_line_end (T : Txt K mg) : FnOk P w K mg base CX0 1 T.f_line_end.a T.f_line_end.fd ["octets", "at"] (sp_line_end K) := by
  refine T.f_line_end.F.ok sc_line_end (fun vs H Q E h => ?_) (fun cdv A outer s H vs Q E hr h => ⟨_, (pss_cons (ps_for PassesOwn.never rfl (pi_range2 rfl T.b_range (pa_cons (pv 1) (pa_cons (pe_callB (cr_len K) rfl T.b_len PySem.boot_len (pa_cons (pv 0) pa_nil)) pa_nil))) (pg_name (i := 2) sc_line_end.nd rfl (Or.inl rfl)) (pss_one (ps_if (pt_cmpR op_eq (pe_ix (ixLK K) (pv 0) (pv 2) (fun _ _ => rfl)) (pe_gi T.c_LINE_END_documents) (nomark _)) (pss_one (ps_ret (pv 2))) pss_nil)))
 (pss_one (ps_ret (pe_callB (cr_len K) rfl T.b_len PySem.boot_len (pa_cons (pv 0) pa_nil))))), ?_⟩)
  · obtain ⟨_, _, _, rfl, _⟩ := h; rfl
  · obtain ⟨a, b, i, rfl, hL, hi, hbl, k⟩ := h
    generalize hX : Sm.lineN (b.drop i) = X at k
    walk_at "u"
    refine u_lenL hL ?_
    walk_at "u"
    rw [map_int_len, bI_len]
    refine f_rng2 (fun j σ H' => ∃ v2, σ = [some (.ref a), some (.int i), v2] ∧ H' = H ∧ X = j + Sm.lineN (b.drop (i + j)) ∧ i + j ≤ b.length) ⟨by omega, by omega, by omega, by omega⟩ ⟨none, rfl, rfl, by rw [Nat.zero_add]; exact hX.symm, hi⟩ ?_ ?_
    · rintro j σ H' hj ⟨v2, rfl, rfl, hx, _⟩
      have hij : i + j < b.length := by omega
      rw [List.drop_eq_getElem_cons hij] at hx
      have hg : b[i + j]? = some b[i + j] := List.getElem?_eq_getElem hij
      generalize b[i + j] = c at hx hg
      walk_at "u"
      refine u_ixL hL (at_int (j := i + j) (by omega) (bI_at hg)) ?_
      walk_at "u"
      refine ite_d (fun h => ?_) (fun h => ?_)
      · rw [Sm.lineN_end (by omega)] at hx
        walk_at "u"
        exact k _ (by omega)
      · rw [Sm.lineN_on (by omega)] at hx
        walk_at "u"
        exact ⟨_, rfl, rfl, by rw [hx, Nat.add_assoc i j 1]; omega, by omega⟩
    · rintro σ H' ⟨v2, rfl, rfl, hx, _⟩
      have e : ((b.length : Int) - (i : Int)).toNat = b.length - i := by omega
      rw [e, List.drop_eq_nil_of_le (by omega)] at hx
      have hx2 : X = b.length - i + 0 := hx
      walk_at "u"
      refine u_lenL hL ?_
      rw [map_int_len, bI_len]
      exact k _ (by omega)
def sp_early_fault (K : PySem.W.Frag) : Sp := fun vs H Q _ => ∃ (a : Addr) (b : Bytes) (i n : Nat), vs = [.ref a, .int i, .int ((i + Sm.lineN (b.drop i) : Nat) : Int), .int n] ∧ LI K H a (bI b) ∧ i < b.length ∧ b.length ≤ 900000 ∧ ∀ r, r = faultZ (Sm.earlyF n i (b.drop i)) → ∀ H', Same H H' → Q (.int r) H'
theorem ok_early_fault (T : Txt K mg) : FnOk P w K mg base CX0 1 T.f_early_fault.a T.f_early_fault.fd ["octets", "at", "end", "many"] (sp_early_fault K) := by
  refine T.f_early_fault.F.ok sc_early_fault (fun vs H Q E h => ?_) (fun cdv A outer s H vs Q E hr h => ⟨_, (pss_cons (ps_if (PW.pt (pw_or (pt_cmpR op_ge (pv 3) (pe_gi T.c_MOST_LINES) (nomark _)) (pw_or (pt_cmpR op_eq (pv 1) (pv 2) (nomark _)) (pw_or1 (pt_cmpR (ninK K) (pe_ix (ixLK K) (pv 0) (pv 1) (fun _ _ => rfl)) (pe_tup (pa_cons (pe_gi T.c_RAW) (pa_cons (pe_gi T.c_PARAGRAPH) pa_nil))) (by rfl)))))) (pss_one (ps_ret (pv 1))) pss_nil)
 (pss_one (ps_ret (pe_ifExp (pt_cmpR op_eq (pv 2) (pe_callB (cr_len K) rfl T.b_len PySem.boot_len (pa_cons (pv 0) pa_nil)) (nomark _)) (pv 2) (pe_un un_neg pe_int))))), ?_⟩)
  · obtain ⟨_, _, _, _, rfl, _⟩ := h; rfl
  · obtain ⟨a, b, i, n, rfl, hL, hi, hbl, k⟩ := h
    have hg : b[i]? = some b[i] := List.getElem?_eq_getElem hi
    have hlen : (b.drop i).length = b.length - i := List.length_drop ..
    rw [List.drop_eq_getElem_cons hi, Sm.early_cons, ← List.drop_eq_getElem_cons hi] at k
    generalize b[i] = c at hg k
    generalize Sm.lineN (b.drop i) = X at k
    rw [hlen] at k
    refine u_seq (u_if ?_)
    refine tt_cut (decide (Fh.LINES ≤ n ∨ X = 0 ∨ ¬ (c.toNat = 124 ∨ c.toNat = 62))) (fun QT q => ?_) (fun H1 s1 => ?_)
    · walk_at "u"
      refine ite_d (fun h1 => ?_) (fun h1 => ?_)
      · exact q _ _ (Same.refl _) (decide_eq_true (Or.inl (by show 16384 ≤ n; omega))).symm
      · have g1 : ¬ Fh.LINES ≤ n := by show ¬ 16384 ≤ n; omega
        walk_at "u"
        refine ite_d (fun h2 => ?_) (fun h2 => ?_)
        · exact q _ _ (Same.refl _) (decide_eq_true (Or.inr (Or.inl (by omega)))).symm
        · have g2 : ¬ X = 0 := by omega
          walk_at "u"
          refine u_ixL hL (at_int (j := i) rfl (bI_at hg)) ?_
          walk_at "u"
          refine ⟨by show 2 ≤ sizeLine; decide, fun p hp => ?_⟩
          refine u_nin (Or.inr (SqT.of upd_same)) rfl rfl ?_
          have e1 : inV (.int (c.toNat : Int)) [.int 124, .int 62] = decide (c.toNat = 124 ∨ c.toNat = 62) := by
            simp only [inV, List.any_cons, eqV, List.any_nil, Bool.or_false]
            rw [Bool.eq_iff_iff]
            simp only [Bool.or_eq_true, beq_iff_eq, decide_eq_true_eq]
            omega
          rw [e1]
          walk_at "u"
          refine q _ _ (same_new hp) ?_
          rw [← decide_not]
          refine decide_eq_decide.mpr ⟨fun h => Or.inr (Or.inr h), fun h => ?_⟩
          rcases h with h | h | h
          · exact absurd h g1
          · exact absurd h g2
          · exact h
    · refine ite_d (fun h1 => ?_) (fun h1 => ?_)
      · rw [if_pos h1] at k
        walk_at "u"
        exact k _ rfl _ s1
      · rw [if_neg h1] at k
        walk_at "u"
        refine u_lenL (same_l s1 hL) ?_
        walk_at "u"
        rw [map_int_len, bI_len]
        refine ite_d (fun h2 => ?_) (fun h2 => ?_)
        · rw [if_pos (by omega)] at k
          walk_at "u"
          exact k _ rfl _ s1
        · rw [if_neg (by omega)] at k
          walk_at "u"
          exact k _ rfl _ s1
/-- a raw line's fault by its characters -/
def rawZ (i : Nat) (x : Except Nat (List Nat)) : Int := match x with
  | .ok t => if 4096 < t.length then (i : Int) else -1
  | .error k => ((i + 1 + k : Nat) : Int)
def sp_raw_fault (K : PySem.W.Frag) : Sp := fun vs H Q _ => ∃ (a : Addr) (b : Bytes) (i e : Nat), vs = [.ref a, .int i, .int e] ∧ LI K H a (bI b) ∧ i < e ∧ e ≤ b.length ∧ b.length ≤ 900000 ∧ ∀ r, r = rawZ i (Fh.charsRead (cutB b (i + 1) e)) → ∀ H', Same H H' → Q (.int r) H'
theorem ok_raw_fault (T : Txt K mg) : FnOk P w K mg base CX0 3 T.f_raw_fault.a T.f_raw_fault.fd ["octets", "at", "end"] (sp_raw_fault K) := by
  refine T.f_raw_fault.F.ok sc_raw_fault (fun vs H Q E h => ?_) (fun cdv A outer s H vs Q E hr h => ⟨_, (pss_cons (ps_par (i := 3) (j := 4) (by rfl) sc_raw_fault.nd rfl rfl (by decide) rfl rfl (pa_cons (pe_op op_add (pv 1) pe_int) (pa_cons pe_int pa_nil)) (by rfl))
 (pss_cons (ps_while PassesOwn.never (pt_cmpR op_lt (pv 3) (pv 2) (nomark _)) (pss_cons (ps_asg (pe_call (ok_character_at T) (hr.mono (by decide)) rfl T.f_character_at.g T.f_character_at.F.kp T.f_character_at.b .nil pass0 (pa_cons (pv 0) (pa_cons (pv 3) (pa_cons (pv 2) pa_nil)))) (gtK K (n := 2) rfl (pgs_cons (pg_name (i := 5) sc_raw_fault.nd rfl (Or.inl rfl)) (pgs_cons (pg_name (i := 3) sc_raw_fault.nd rfl (Or.inl rfl)) pgs_nil))))
 (pss_cons (ps_if (pt_cmpR op_lt (pv 5) pe_int (nomark _)) (pss_one (ps_ret (pv 3))) pss_nil)
 (pss_one (ps_set (i := 4) sc_raw_fault.nd rfl (Or.inl rfl) (pe_op op_add (pv 4) pe_int))))))
 (pss_one (ps_ret (pe_ifExp (pt_cmpR op_gt (pv 4) (pe_gi T.c_MOST_PIECES) (nomark _)) (pv 1) (pe_un un_neg pe_int)))))), ?_⟩)
  · obtain ⟨_, _, _, _, rfl, _⟩ := h; rfl
  · obtain ⟨a, b, i, e, rfl, hL, hi, he, hbl, k⟩ := h
    unfold Fh.charsRead at k
    have hcl : (cutB b (i + 1) e).length = e - (i + 1) := cutB_len he
    generalize hR0 : Fh.charsFrom (cutB b (i + 1) e).length 0 [] (cutB b (i + 1) e) = R at k
    walk_at "u"
    refine f_while (fun m σ H' => ∃ (n : Nat) (l : List Nat) (v5 : Option V), σ = [some (.ref a), some (.int i), some (.int e), some (.int ((i + 1 + n : Nat) : Int)), some (.int l.length), v5] ∧ Same H H' ∧
        R = Fh.charsFrom m n l (cutB b (i + 1 + n) e) ∧ i + 1 + n ≤ e ∧ e - (i + 1 + n) ≤ m) (m := (cutB b (i + 1) e).length)
      ⟨0, [], none, rfl, Same.refl _, hR0.symm, hi, by omega⟩ ?_
    rintro m σ H2 ⟨n, l, v5, rfl, s2, hR, hn, hm⟩
    walk_at "u"
    refine ite_d (fun h1 => ?_) (fun h1 => ?_)
    · have hlt : i + 1 + n < e := by omega
      obtain ⟨m, rfl⟩ : ∃ j, m = j + 1 := ⟨m - 1, by omega⟩
      obtain ⟨c, hc, hcut⟩ := cutB_cons hlt he
      have hR2 : R = match Fh.charHere (cutB b (i + 1 + n) e) with | .ok x => Fh.charsFrom m (n + x.2) (x.1 :: l) ((cutB b (i + 1 + n) e).drop x.2) | .error k => .error (n + k) := by
        rw [hR, hcut]; rfl
      have hlen : (cutB b (i + 1 + n) e).length = e - (i + 1 + n) := cutB_len he
      simp only [cutB_drop] at hR2
      refine u_body ?_
      walk_at "u"
      refine ⟨a, b, i + 1 + n, e, rfl, same_l s2 hL, hn, he, by omega, fun p H3 z s3 hz hp => ?_⟩
      rw [Sm.charM_eq] at hz
      cases hch : Fh.charHere (cutB b (i + 1 + n) e) with
      | error j =>
        rw [hch] at hz hR2
        subst hz
        refine u_gt (SqT.of hp) rfl ?_
        walk_at "u"
        refine ite_d (fun _ => ?_) (fun h => absurd (show (-1 : Int) < 0 by decide) h)
        walk_at "u"
        refine k _ ?_ _ (s2.trans s3)
        rw [hR2]
        show ((i + 1 + n + j : Nat) : Int) = ((i + 1 + (n + j) : Nat) : Int)
        omega
      | ok x =>
        rw [hch] at hz hR2
        subst hz
        have ez : chRes (i + 1 + n) (Sm.exC (.ok x)) = (((x.1 : Nat) : Int), ((i + 1 + n + x.2 : Nat) : Int)) := rfl
        rw [ez] at hp
        dsimp only at hp
        obtain ⟨r8, e8, e9, e10⟩ := Sm.utf8_here hch
        have hxl : x.2 ≤ e - (i + 1 + n) := by
          rw [← hlen, e8, List.length_append]
          omega
        refine u_gt (SqT.of hp) rfl ?_
        walk_at "u"
        refine ite_d (fun h => absurd h (show ¬ ((x.1 : Nat) : Int) < 0 by omega)) (fun _ => ?_)
        walk_at "u"
        refine ⟨m, by omega, n + x.2, x.1 :: l, some (.int (x.1 : Nat)), ?_, s2.trans s3, ?_, by omega, by omega⟩
        · show [_, _, _, some (V.int ((i + 1 + n + x.2 : Nat) : Int)), some (V.int ((l.length : Int) + 1)), _] = _
          rw [show ((i + 1 + (n + x.2) : Nat) : Int) = ((i + 1 + n + x.2 : Nat) : Int) by omega]
          rfl
        · rw [hR2]
          dsimp only
          rw [show i + 1 + (n + x.2) = i + 1 + n + x.2 by omega]
    · rw [cutB_nil (by omega)] at hR
      have hR2 : R = .ok l.reverse := by rw [hR]; cases m <;> rfl
      have k : ∀ r, r = (if 4096 < l.length then (i : Int) else -1) → ∀ H', Same H H' → Q (.int r) H' := fun r hr => k r (by rw [hR2, hr]; unfold rawZ; dsimp only; rw [List.length_reverse])
      walk_at "u"
      refine ite_d (fun h2 => ?_) (fun h2 => ?_)
      · rw [if_pos (by omega)] at k
        walk_at "u"
        exact k _ rfl _ s2
      · rw [if_neg (by omega)] at k
        walk_at "u"
        exact k _ rfl _ s2
def sp_read_line (K : PySem.W.Frag) : Sp := fun vs H Q _ => ∃ (a : Addr) (b : Bytes) (i e : Nat) (c : UInt8), vs = [.ref a, .int i, .int e] ∧ LI K H a (bI b) ∧ i < e ∧ e ≤ b.length ∧ b.length ≤ 900000 ∧ b[i]? = some c ∧ (c.toNat = 124 ∨ c.toNat = 62) ∧
  (∀ z, Fh.lineRead i (cutB b i e) = .error z → ∀ p v H', Same H H' → SqT K H' p [v, .int (z.2 : Nat)] → Q (.ref p) H') ∧
  ∀ l, Fh.lineRead i (cutB b i e) = .ok l → ∀ p v H', Same H H' → SqT K H' p [v, .int (-1)] → LnF K H H' v l → Q (.ref p) H'
theorem ok_read_line (T : Txt K mg) : FnOk P w K mg base CX0 5 T.f_read_line.a T.f_read_line.fd ["octets", "at", "end"] (sp_read_line K) := by
  refine T.f_read_line.F.ok sc_read_line (fun vs H Q E h => ?_) (fun cdv A outer s H vs Q E hr h => ⟨_, (pss_cons (ps_if (pt_cmpR op_eq (pe_ix (ixLK K) (pv 0) (pv 1) (fun _ _ => rfl)) (pe_gi T.c_RAW) (nomark _)) (pss_one (ps_ret (pe_tup (pa_cons (pe_tup (pa_cons pe_bl (pa_cons (pe_slice (slLK K) (pv 0) (po_some (pv 1)) (po_some (pv 2))) pa_nil))) (pa_cons (pe_call (ok_raw_fault T) (hr.mono (by decide)) rfl T.f_raw_fault.g T.f_raw_fault.F.kp T.f_raw_fault.b .nil pass0 (pa_cons (pv 0) (pa_cons (pv 1) (pa_cons (pv 2) pa_nil)))) pa_nil))))) pss_nil)
 (pss_cons (ps_asg (pe_call (ok_read_row T) (hr.mono (by decide)) rfl T.f_read_row.g T.f_read_row.F.kp T.f_read_row.b .nil pass0 (pa_cons (pv 0) (pa_cons (pe_op op_add (pv 1) pe_int) (pa_cons (pv 2) pa_nil)))) (gtK K (n := 2) rfl (pgs_cons (pg_name (i := 3) sc_read_line.nd rfl (Or.inl rfl)) (pgs_cons (pg_name (i := 4) sc_read_line.nd rfl (Or.inl rfl)) pgs_nil))))
 (pss_cons (ps_if (pt_cmpR op_ge (pv 4) pe_int (nomark _)) (pss_one (ps_ret (pe_tup (pa_cons (pe_tup (pa_cons pe_bl (pa_cons (pv 3) pa_nil))) (pa_cons (pv 4) pa_nil))))) pss_nil)
 (pss_cons (ps_if (PW.pt (pw_or (pt_cmpR op_gt (pe_callB (cr_len K) rfl T.b_len PySem.boot_len (pa_cons (pv 3) pa_nil)) (pe_gi T.c_MOST_PIECES) (nomark _)) (pw_or (pt_cmpR op_gt (pe_op op_sub (pe_op op_sub (pv 2) (pv 1)) pe_int) (pe_gi T.c_MOST_PARAGRAPH) (nomark _)) (pw_or1 (pt_not (pt_val (pe_call (ok_is_paired T) (hr.mono (by decide)) rfl T.f_is_paired.g T.f_is_paired.F.kp T.f_is_paired.b .nil pass0 (pa_cons (pv 3) pa_nil)))))))) (pss_one (ps_ret (pe_tup (pa_cons (pe_tup (pa_cons pe_bl (pa_cons (pv 3) pa_nil))) (pa_cons (pv 1) pa_nil))))) pss_nil)
 (pss_one (ps_ret (pe_tup (pa_cons (pe_tup (pa_cons pe_bl (pa_cons (pv 3) pa_nil))) (pa_cons (pe_un un_neg pe_int) pa_nil))))))))), ?_⟩)
  · obtain ⟨_, _, _, _, _, rfl, _⟩ := h; rfl
  · obtain ⟨a, b, i, e, c, rfl, hL, hi, he, hbl, hc, hcc, kE, kO⟩ := h
    obtain ⟨c', hc', hcut⟩ := cutB_cons hi he
    rw [hc] at hc'
    cases hc'
    walk_at "u"
    refine u_ixL hL (at_int (j := i) rfl (bI_at hc)) ?_
    walk_at "u"
    refine ite_d (fun h1 => ?_) (fun h1 => ?_)
    · have h124 : c.toNat = 124 := by omega
      have hln := Sm.lineRead_raw (at_ := i) (b := cutB b (i + 1) e) h124
      rw [← hcut] at hln
      rw [hln] at kE kO
      walk_at "u"
      refine u_slL hL fun q hq => ?_
      have ecv : cutV ((bI b).map V.int) (some (i : Int)) (some (e : Int)) = (bI (cutB b i e)).map V.int := by
        rw [sl_enc]
        unfold cutB bI
        rw [List.map_drop, List.map_drop, List.map_take, List.map_take]
      rw [ecv]
      have s1 := same_new (o := .lst ((bI (cutB b i e)).map V.int)) hq
      have e1 : upd H q (.lst ((bI (cutB b i e)).map V.int)) q = some (.lst ((bI (cutB b i e)).map V.int)) := upd_same
      generalize upd H q (.lst ((bI (cutB b i e)).map V.int)) = H1 at s1 e1
      walk_at "u"
      refine ⟨by show 2 ≤ sizeLine; decide, fun p1 h1 => ?_⟩
      have n2 := same_new (o := .tup [.bl true, .ref q]) h1
      have e2 : upd H1 p1 (.tup [.bl true, .ref q]) p1 = some (.tup [.bl true, .ref q]) := upd_same
      have e12 := n2 _ _ e1
      have s2 := s1.trans n2
      generalize upd H1 p1 (.tup [.bl true, .ref q]) = H2 at s2 e2 e12
      walk_at "u"
      refine ⟨a, b, i, e, rfl, same_l s2 hL, hi, he, hbl, fun r hr H3 s3 => ?_⟩
      walk_at "u"
      refine ⟨by show 2 ≤ sizeLine; decide, fun p2 h2 => ?_⟩
      have n4 := same_new (o := .tup [.ref p1, .int r]) h2
      cases hch : Fh.charsRead (cutB b (i + 1) e) with
      | error j =>
        rw [hch] at kE hr
        subst hr
        exact kE (2, i + 1 + j) rfl p2 (.ref p1) _ ((s2.trans s3).trans n4) (SqT.of upd_same)
      | ok t =>
        rw [hch] at kE kO hr
        subst hr
        dsimp only at kE kO
        by_cases h3 : Fh.PIECES < t.length
        · have h3' : 4096 < t.length := h3
          rw [if_pos h3] at kE
          refine kE (4, i) rfl p2 (.ref p1) _ ((s2.trans s3).trans n4) (SqT.of ?_)
          unfold rawZ
          dsimp only
          rw [if_pos h3']
          exact upd_same
        · have h3' : ¬ 4096 < t.length := h3
          rw [if_neg h3] at kO
          have ht := Sm.chars_text hch
          have hcb : cutB b i e = 124 :: t.flatMap Fh.utf8 := by rw [hcut, ht, Sm.byte124.mpr h124]
          have e24 := n4 _ _ (s3 _ _ e2)
          have e124 := n4 _ _ (s3 _ _ e12)
          have hd : ∀ H5 : Hp, H5 p1 = some (.tup [.bl true, .ref q]) → H5 q = some (.lst ((bI (cutB b i e)).map V.int)) → LnAt K H5 (.ref p1) (.raw t) := fun H5 g1 g2 =>
            ⟨p1, q, _, rfl, SqT.of g1, g2, by show _ = (bI (124 :: t.flatMap Fh.utf8)).map V.int; rw [hcb]⟩
          refine kO (.raw t) rfl p2 (.ref p1) _ ((s2.trans s3).trans n4) (SqT.of ?_) ⟨hd _ e24 e124, fun la xs hla => hd _ ?_ ?_⟩
          · unfold rawZ
            dsimp only
            rw [if_neg h3']
            exact upd_same
          · rw [del_ne (fun z => by rw [z, s1 _ _ hla] at h1; cases h1)]; exact e24
          · rw [del_ne (fun z => by rw [z, hla] at hq; cases hq)]; exact e124
    · have h62 : c.toNat = 62 := by omega
      have hln := Sm.lineRead_para (at_ := i) (b := cutB b (i + 1) e) h62
      rw [← hcut] at hln
      rw [hln] at kE kO
      walk_at "u"
      have ei : (i : Int) + 1 = ((i + 1 : Nat) : Int) := by omega
      rw [ei]
      have outp : ∀ (σ : L2.St) (H3 : Hp) (l : Addr) (te : TE) (z : Nat), σ[3]? = some (some (.ref l)) → Same H H3 → (∀ Q' H4, Same H3 H4 → Q' (.int (z : Nat)) H4 → te σ H4 Q') → (∃ kd, (match Fh.rowRead (cutB b (i + 1) e) with
          | .ok r => if Fh.PIECES < r.length ∨ Fh.ROWTEXT < (cutB b (i + 1) e).length then .error (4, i) else if Fh.paired r = false then .error (3, i) else .ok (.para r)
          | .error k => .error (2, i + 1 + k) : Except Fh.Bad Fh.Line) = .error (kd, z)) →
          tRet (tTup (tCons (tTup (tCons (tC (.bl false)) (tCons (tVar 3) tNil))) (tCons te tNil))) { nx := fun _ H' => Q .non H', rt := Q } σ H3 := by
        rintro σ H3 l te z hσ s3 hte ⟨kd, hk⟩
        walk_at "u"
        refine u_var hσ ?_
        walk_at "u"
        refine ⟨by show 2 ≤ sizeLine; decide, fun p1 h1 => ?_⟩
        walk_at "u"
        refine hte _ _ (same_new h1) ?_
        walk_at "u"
        refine ⟨by show 2 ≤ sizeLine; decide, fun p2 h2 => ?_⟩
        exact kE (kd, z) hk p2 (.ref p1) _ (same_then (same_then s3 h1) h2) (SqT.of upd_same)
      have hcl : (cutB b (i + 1) e).length = e - (i + 1) := cutB_len he
      refine ⟨a, b, i + 1, e, rfl, hL, by omega, he, hbl, fun j hj p v H1 s1 hp => ?_, fun x hx p l us H1 s1 hp hl hD hxl hln hll => ?_⟩
      · rw [hj] at outp kE
        refine u_gt hp rfl ?_
        walk_at "u"
        refine ite_d (fun _ => ?_) (fun h => absurd (show ((i + 1 + j : Nat) : Int) ≥ 0 by omega) h)
        walk_at "u"
        refine ⟨by show 2 ≤ sizeLine; decide, fun p1 h1 => ?_⟩
        walk_at "u"
        refine ⟨by show 2 ≤ sizeLine; decide, fun p2 h2 => ?_⟩
        exact kE (2, i + 1 + j) rfl p2 (.ref p1) _ (same_then (same_then s1 h1) h2) (SqT.of upd_same)
      · rw [hx] at outp kE kO
        dsimp only at outp kE kO
        have hul : us.length = x.length := by rw [dps_len hD, List.length_map]
        refine u_gt hp rfl ?_
        walk_at "u"
        refine ite_d (fun h => absurd h (by decide)) (fun _ => ?_)
        walk_at "un"
        refine u_seq (u_if ?_)
        refine tt_cut (decide ((Fh.PIECES < x.length ∨ Fh.ROWTEXT < (cutB b (i + 1) e).length) ∨ Fh.paired x = false)) (fun QT q => ?_) (fun H2 s2 => ?_)
        · walk_at "u"
          refine u_lenL hl ?_
          walk_at "u"
          refine ite_d (fun h2 => ?_) (fun h2 => ?_)
          · exact q _ _ (Same.refl _) (decide_eq_true (Or.inl (Or.inl (by show 4096 < x.length; omega)))).symm
          · have g1 : ¬ Fh.PIECES < x.length := by show ¬ 4096 < x.length; omega
            walk_at "u"
            refine ite_d (fun h3 => ?_) (fun h3 => ?_)
            · exact q _ _ (Same.refl _) (decide_eq_true (Or.inl (Or.inr (by show 65536 < _; omega)))).symm
            · have g2 : ¬ Fh.ROWTEXT < (cutB b (i + 1) e).length := by show ¬ 65536 < _; omega
              walk_at "u"
              refine ⟨l, us, x, rfl, hl, hD, by omega, fun r hr H2 s2 => ?_⟩
              walk_at "u"
              refine q _ _ s2 ?_
              rw [hr]
              cases hpx : Fh.paired x with
              | true => exact (decide_eq_false (fun z => z.elim (fun z => z.elim g1 g2) (fun z => by cases z))).symm
              | false => exact (decide_eq_true (Or.inr rfl)).symm
        · refine ite_d (fun hc3 => ?_) (fun hc3 => ?_)
          · refine outp _ H2 l _ i rfl (s1.trans s2) (fun Q' H4 s4 hq => u_var rfl hq) ?_
            by_cases hc4 : Fh.PIECES < x.length ∨ Fh.ROWTEXT < (cutB b (i + 1) e).length
            · rw [if_pos hc4]; exact ⟨_, rfl⟩
            · rw [if_neg hc4, if_pos (hc3.resolve_left hc4)]; exact ⟨_, rfl⟩
          · rw [not_or] at hc3
            rw [if_neg hc3.1, if_neg hc3.2] at kO
            walk_at "u"
            refine ⟨by show 2 ≤ sizeLine; decide, fun p1 h1 => ?_⟩
            have n3 := same_new (o := .tup [.bl false, .ref l]) h1
            walk_at "u"
            refine ⟨by show 2 ≤ sizeLine; decide, fun p2 h2 => ?_⟩
            have n4 := same_new (o := .tup [.ref p1, .int (-1)]) h2
            have s24 := (s2.trans n3).trans n4
            have g1 := n4 _ _ (show upd H2 p1 (.tup [.bl false, .ref l]) p1 = _ from upd_same)
            have g2 := s24 _ _ hll
            have g3 := dps_same s24 hD
            have hd : ∀ H5 : Hp, H5 p1 = some (.tup [.bl false, .ref l]) → H5 l = some (.lst us) → DpAll K H5 us (x.map encP) → LnAt K H5 (.ref p1) (.para x) := fun H5 g1 g2 g3 =>
              ⟨p1, l, us, rfl, SqT.of g1, g2, g3⟩
            refine kO (.para x) rfl p2 (.ref p1) _ (s1.trans s24) (SqT.of upd_same) ⟨hd _ g1 g2 g3, fun la xs hla => hd _ ?_ ?_ ?_⟩
            · rw [del_ne (fun z => by rw [z, s2 _ _ (s1 _ _ hla)] at h1; cases h1)]; exact g1
            · rw [del_ne (fun z => by rw [z, hla] at hln; cases hln)]; exact g2
            · exact (Kt.del ((s1.trans s24) _ _ hla) rfl).ds (tupDs_map tupD_P _) g3
end
end Sr
namespace Sr
open PySem PySem.Spec PyProof.Rows L2
open Fh (Bytes)
theorem cut_line {b : Bytes} {i n : Nat} : cutB b i (i + n) = (b.drop i).take n := by
  unfold cutB
  rw [List.drop_take]
  congr 1
  omega
section
variable {P : Program} {w : World} {K : PySem.W.Frag} {mg : Str → Option Value} {base : Heap}
def sp_read_document (K : PySem.W.Frag) : Sp := fun vs H Q _ => ∃ (a : Addr) (b : Bytes), vs = [.ref a] ∧ LI K H a (bI b) ∧ b.length ≤ 900000 ∧
  (∀ j, Sm.docE (Fh.docRead b) = .error j → ∀ p v H', Same H H' → SqT K H' p [v, .int (j : Nat)] → Q (.ref p) H') ∧
  ∀ d, Fh.docRead b = .ok d → ∀ p la ws H', Same H H' → SqT K H' p [.ref la, .int (-1)] → SqL K H' la ws → All2 (LnAt K H') ws d → d.length ≤ 900000 → Q (.ref p) H'
theorem ok_read_document (T : Txt K mg) : FnOk P w K mg base CX0 6 T.f_read_document.a T.f_read_document.fd ["octets"] (sp_read_document K) := by
  refine T.f_read_document.F.ok sc_read_document (fun vs H Q E h => ?_) (fun cdv A outer s H vs Q E hr h => ⟨_, (pss_cons (ps_par (i := 1) (j := 2) (by rfl) sc_read_document.nd rfl rfl (by decide) rfl rfl (pa_cons (pe_lst pa_nil) (pa_cons pe_int pa_nil)) (by rfl))
 (pss_cons (ps_while PassesOwn.never (pt_cmpR op_lt (pv 2) (pe_callB (cr_len K) rfl T.b_len PySem.boot_len (pa_cons (pv 0) pa_nil)) (nomark _)) (pss_cons (ps_set (i := 3) sc_read_document.nd rfl (Or.inl rfl) (pe_call (ok_line_end T) (hr.mono (by decide)) rfl T.f_line_end.g T.f_line_end.F.kp T.f_line_end.b .nil pass0 (pa_cons (pv 0) (pa_cons (pv 2) pa_nil))))
 (pss_cons (ps_set (i := 4) sc_read_document.nd rfl (Or.inl rfl) (pe_call (ok_early_fault T) (hr.mono (by decide)) rfl T.f_early_fault.g T.f_early_fault.F.kp T.f_early_fault.b .nil pass0 (pa_cons (pv 0) (pa_cons (pv 2) (pa_cons (pv 3) (pa_cons (pe_callB (cr_len K) rfl T.b_len PySem.boot_len (pa_cons (pv 1) pa_nil)) pa_nil))))))
 (pss_cons (ps_if (pt_cmpR op_ge (pv 4) pe_int (nomark _)) (pss_one (ps_ret (pe_tup (pa_cons (pv 1) (pa_cons (pv 4) pa_nil))))) pss_nil)
 (pss_cons (ps_asg (pe_call (ok_read_line T) (hr.mono (by decide)) rfl T.f_read_line.g T.f_read_line.F.kp T.f_read_line.b .nil pass0 (pa_cons (pv 0) (pa_cons (pv 2) (pa_cons (pv 3) pa_nil)))) (gtK K (n := 2) rfl (pgs_cons (pg_name (i := 5) sc_read_document.nd rfl (Or.inl rfl)) (pgs_cons (pg_name (i := 4) sc_read_document.nd rfl (Or.inl rfl)) pgs_nil))))
 (pss_cons (ps_if (pt_cmpR op_ge (pv 4) pe_int (nomark _)) (pss_one (ps_ret (pe_tup (pa_cons (pv 1) (pa_cons (pv 4) pa_nil))))) pss_nil)
 (pss_cons (ps_expr (bmK K PySem.F.plainAttrs_list PySem.F.slot_list_append PySem.F.type_list_append mt_append (pv 1) (pa_cons (pv 5) pa_nil)))
 (pss_one (ps_set (i := 2) sc_read_document.nd rfl (Or.inl rfl) (pe_op op_add (pv 3) pe_int))))))))))
 (pss_one (ps_ret (pe_tup (pa_cons (pv 1) (pa_cons (pe_un un_neg pe_int) pa_nil))))))), ?_⟩)
  · obtain ⟨_, _, rfl, _⟩ := h; rfl
  · obtain ⟨a, b, rfl, hL, hbl, kE, kO⟩ := h
    unfold Fh.docRead at kE kO
    generalize hR0 : Fh.docFrom b.length 0 0 [] b = R at kE kO
    walk_at "u"
    refine ⟨by show 0 ≤ sizeLine; decide, fun la hla => ?_⟩
    walk_at "u"
    refine f_while (fun m σ H' => ∃ (n : Nat) (d : Fh.Document) (ws : List V) (v3 v4 v5 : Option V), σ = [some (.ref a), some (.ref la), some (.int (n : Nat)), v3, v4, v5] ∧ Same H H' ∧ H' la = some (.lst ws) ∧ All2 (LnAt K (del H' la)) ws d.reverse ∧
        R = Fh.docFrom m n d.length d (b.drop n) ∧ n ≤ b.length ∧ b.length - n ≤ m ∧ d.length ≤ n) (m := b.length)
      ⟨0, [], [], none, none, none, rfl, same_new hla, upd_same, .nil, hR0.symm, Nat.zero_le _, Nat.le_refl _, Nat.le_refl _⟩ ?_
    rintro m σ H2 ⟨n, d, ws, v3, v4, v5, rfl, s2, hf2, hD, hR, hn, hm, hdn⟩
    have wl : ws.length = d.length := by rw [hD.len, List.length_reverse]
    walk_at "u"
    refine u_lenL (same_l s2 hL) ?_
    walk_at "u"
    rw [map_int_len, bI_len]
    refine ite_d (fun h1 => ?_) (fun h1 => ?_)
    · have hlt : n < b.length := by omega
      obtain ⟨m, rfl⟩ : ∃ j, m = j + 1 := ⟨m - 1, by omega⟩
      have hL2 := same_l s2 hL
      refine u_body ?_
      walk_at "u"
      refine ⟨a, b, n, rfl, hL2, hn, hbl, fun r hr => ?_⟩
      subst hr
      walk_at "u"
      refine u_lenL (li_any hf2) ?_
      walk_at "u"
      rw [wl]
      refine ⟨a, b, n, d.length, rfl, hL2, hlt, hbl, fun r hr H3 s3 => ?_⟩
      walk_at "u"
      have hne : b.drop n ≠ [] := fun z => by have := congrArg List.length z; rw [List.length_drop, List.length_nil] at this; omega
      cases he : Sm.earlyF d.length n (b.drop n) with
      | some p =>
        rw [he] at hr
        subst hr
        obtain ⟨kd, hk⟩ := Sm.doc_early (f := m) (d := d) he
        rw [hk] at hR
        rw [hR] at kE
        refine ite_d (fun _ => ?_) (fun h => absurd (show ((p : Nat) : Int) ≥ 0 by omega) h)
        walk_at "u"
        refine ⟨by show 2 ≤ sizeLine; decide, fun q hq => ?_⟩
        exact kE p rfl q (.ref la) _ (same_then (s2.trans s3) hq) (SqT.of upd_same)
      | none =>
        rw [he] at hr
        subst hr
        obtain ⟨⟨c, rest, hcr, hcc⟩, hll, hdo⟩ := Sm.doc_late (f := m) (d := d) hne he
        rw [List.length_drop] at hll
        have hpos : 0 < Sm.lineN (b.drop n) := by
          have := congrArg List.length hcr
          rw [List.length_take, List.length_cons] at this
          omega
        have hcn : b[n]? = some c := by
          have h2 : ((b.drop n).take (Sm.lineN (b.drop n)))[0]? = some c := by rw [hcr]; rfl
          rw [List.getElem?_take, if_pos hpos, List.getElem?_drop] at h2
          exact h2
        rw [hdo, ← cut_line] at hR
        generalize hN : Sm.lineN (b.drop n) = N at hR hll hpos
        refine ite_d (fun h => absurd h (show ¬ (-1 : Int) ≥ 0 by decide)) (fun _ => ?_)
        walk_at "u"
        refine ⟨a, b, n, n + N, c, rfl, same_l s3 hL2, by omega, by omega, hbl, hcn, hcc, fun z hz p v H4 s4 hp => ?_, fun l hl p v H4 s4 hp hv => ?_⟩
        · rw [hz] at hR
          rw [hR] at kE
          refine u_gt hp rfl ?_
          walk_at "u"
          refine ite_d (fun _ => ?_) (fun h => absurd (show ((z.2 : Nat) : Int) ≥ 0 by omega) h)
          walk_at "u"
          refine ⟨by show 2 ≤ sizeLine; decide, fun q hq => ?_⟩
          exact kE z.2 rfl q (.ref la) _ (same_then ((s2.trans s3).trans s4) hq) (SqT.of upd_same)
        · rw [hl] at hR
          dsimp only at hR
          refine u_gt hp rfl ?_
          walk_at "u"
          refine ite_d (fun h => absurd h (show ¬ (-1 : Int) ≥ 0 by decide)) (fun _ => ?_)
          walk_at "u"
          have hf4 := s4 _ _ (s3 _ _ hf2)
          refine ⟨u_lty hf4, ?_⟩
          walk_at "u"
          refine u_append hf4 (size_less (by omega)) ?_
          walk_at "u"
          refine ⟨m, by omega, n + N + 1, l :: d, ws ++ [v], some (.int ((n + N : Nat) : Int)), some (.int (-1)), some v, ?_, same_mut ((s2.trans s3).trans s4) hla, upd_same, ?_, ?_, by omega, by omega, by rw [List.length_cons]; omega⟩
          · show [_, _, some (V.int (((n + N : Nat) : Int) + 1)), _, _, _] = _
            rw [show ((n + N + 1 : Nat) : Int) = ((n + N : Nat) : Int) + 1 by omega]
            all_goals rfl
          · rw [del_upd, List.reverse_cons]
            exact (hD.imp fun _ _ => LnAt.same (same_del2 (s3.trans s4))).app (.one (hv.2 la ws (s3 _ _ hf2)))
          · rw [hR, List.drop_drop, List.length_cons]
            all_goals rfl
    · have hR3 : R = .ok d.reverse := by
        rw [hR, List.drop_eq_nil_of_le (by omega), Sm.doc_nil]
      walk_at "u"
      refine ⟨by show 2 ≤ sizeLine; decide, fun q hq => ?_⟩
      have s3 := same_new (o := .tup [.ref la, .int (-1)]) hq
      exact kO d.reverse hR3 q la ws _ (s2.trans s3) (SqT.of upd_same) (li_any (s3 _ _ hf2)) (hD.imp fun _ _ => LnAt.same (del_sub.trans s3)) (by rw [List.length_reverse]; omega)
/-- a document's segment as the program holds it -/
def encSg (x : Sm.Seg) : PyData := .tuple [.int x.1, .int x.2.1, .int x.2.2.1, .list (x.2.2.2.map encP)]
def sp_document_segments (K : PySem.W.Frag) : Sp := fun vs H Q _ => ∃ (la : Addr) (ws : List V) (d : Fh.Document) (v : V) (R : Fh.Rules), vs = [.ref la, v] ∧ SqL K H la ws ∧ All2 (LnAt K H) ws d ∧ d.length ≤ 900000 ∧ (∀ l ∈ d, Sm.okL l) ∧ Sm.sizeD d ≤ 900000 ∧ RuAt K H v R ∧ GoodR R ∧
  ∀ p ys H', Same H H' → H' p = some (.lst ys) → DpAll K H' ys ((Sm.docSegs R 0 d).map encSg) → Q (.ref p) H'
theorem ok_document_segments (T : Txt K mg) : FnOk P w K mg base CX0 8 T.f_document_segments.a T.f_document_segments.fd ["lines", "ruling"] (sp_document_segments K) := by
  refine T.f_document_segments.F.ok sc_document_segments (fun vs H Q E h => ?_) (fun cdv A outer s H vs Q E hr h => ⟨_, (pss_cons (ps_set (i := 2) sc_document_segments.nd rfl (Or.inl rfl) (pe_lst pa_nil))
 (pss_cons (ps_for PassesOwn.never rfl (piEK K rfl T.b_enumerate (pa_cons (pv 0) pa_nil)) (gtK K (n := 2) rfl (pgs_cons (pg_name (i := 3) sc_document_segments.nd rfl (Or.inl rfl)) (pgs_cons (gtK K (n := 2) rfl (pgs_cons (pg_name (i := 4) sc_document_segments.nd rfl (Or.inl rfl)) (pgs_cons (pg_name (i := 5) sc_document_segments.nd rfl (Or.inl rfl)) pgs_nil))) pgs_nil))) (pss_one (ps_if (pt_not (pt_val (pv 4))) (pss_one (ps_for PassesOwn.never rfl (piLK K (pe_call (ok_segments_of T) (hr.mono (by decide)) rfl T.f_segments_of.g T.f_segments_of.F.kp T.f_segments_of.b .nil pass0 (pa_cons (pv 5) (pa_cons (pv 1) pa_nil)))) (gtK K (n := 2) rfl (pgs_cons (pg_name (i := 6) sc_document_segments.nd rfl (Or.inl rfl)) (pgs_cons (pg_name (i := 7) sc_document_segments.nd rfl (Or.inl rfl)) pgs_nil))) (pss_one (ps_expr (bmK K PySem.F.plainAttrs_list PySem.F.slot_list_append PySem.F.type_list_append mt_append (pv 2) (pa_cons (pe_tup (pa_cons (pv 3) (pa_cons (pv 6) (pa_cons (pv 7) (pa_cons (pe_slice (slLK K) (pv 5) (po_some (pv 6)) (po_some (pv 7))) pa_nil))))) pa_nil)))))) pss_nil)))
 (pss_one (ps_ret (pv 2))))), ?_⟩)
  · obtain ⟨_, _, _, _, _, rfl, _⟩ := h; rfl
  · obtain ⟨la, ws, d, v, R, rfl, hL, hD, hdl, hok, hsz, hRu, hG, k⟩ := h
    have wl : ws.length = d.length := hD.len
    have few : ∀ i, (Sm.docSegs R 0 (d.take i)).length ≤ 900000 := fun i => by
      have h1 := Sm.docSegs_few R (d.take i) 0
      have h2 : Sm.sizeD (d.take i) ≤ Sm.sizeD d := by
        unfold Sm.sizeD
        rw [← List.take_append_drop i d, List.map_append, List.sum_append_nat]
        have : (d.take i).length ≤ i := List.length_take_le ..
        rw [List.take_append_drop]
        exact Nat.le_add_right _ _
      omega
    walk_at "u"
    refine ⟨by show 0 ≤ sizeLine; decide, fun fa hfa => ?_⟩
    have s1 := same_new (o := .lst []) hfa
    walk_at "u"
    refine f_enum (K := K) (a := la) (xs := ws) (fun i σ H' => ∃ (v3 v4 v5 v6 v7 : Option V) (ys : List V), σ = [some (.ref la), some v, some (.ref fa), v3, v4, v5, v6, v7] ∧ Same H H' ∧ H' fa = some (.lst ys) ∧ DpAll K (del H' fa) ys ((Sm.docSegs R 0 (d.take i)).map encSg))
      (same_l s1 hL) ⟨none, none, none, none, none, [], rfl, s1, upd_same, .nil⟩ (fun i σ H' _ ⟨_, _, _, _, _, _, _, s, _⟩ => same_l s hL) ?_ ?_
    · rintro i x σ H2 t hx ⟨v3, v4, v5, v6, v7, ys, rfl, s2, hf2, hY⟩ ht
      have hi : i < d.length := by have := (List.getElem?_eq_some_iff.mp hx).1; rw [wl] at this; exact this
      obtain ⟨v2, hv2, hd⟩ := hD.get (List.getElem?_eq_getElem hi)
      rw [hx] at hv2
      cases hv2
      have et : d.take (i + 1) = d.take i ++ [d[i]] := by rw [List.take_add_one, List.getElem?_eq_getElem hi]; rfl
      have edc := Sm.docSegs_app R (d.take i) [d[i]] 0
      rw [← et, List.length_take, Nat.min_eq_left (by omega), Nat.zero_add] at edc
      have few1 := few (i + 1)
      have hoki := hok d[i] (List.getElem_mem hi)
      rw [edc] at few1
      rw [List.length_append] at few1
      generalize d[i] = l at hd edc few1 hoki
      obtain ⟨p, c, us, rfl, hp, hc, hU⟩ := hd
      have n3 := same_new (o := .tup [.int (i : Nat), .ref p]) ht
      have s3 := s2.trans n3
      have hf3 := n3 _ _ hf2
      have hY3 := dps_same (same_del2 (a := fa) n3) hY
      refine u_gt (SqT.of upd_same) rfl ?_
      generalize upd H2 t (.tup [.int (i : Nat), .ref p]) = H3 at s3 hf3 hY3
      walk_at "u"
      refine u_gt (same_t s3 hp) rfl ?_
      walk_at "u"
      cases l with
      | raw tx =>
        have e0 : Sm.docSegs R i [.raw tx] = [] := rfl
        rw [e0, List.append_nil] at edc
        refine ite_nb (fun h => by cases h) (fun _ => ?_)
        walk_at "u"
        exact ⟨_, _, _, _, _, ys, rfl, s3, hf3, by rw [edc]; exact hY3⟩
      | para row =>
        have e0 : Sm.docSegs R i [.para row] = (Sm.posOf R row).map (Sm.segP i row) := List.append_nil _
        rw [e0] at edc few1
        rw [List.length_map] at few1
        refine ite_nb (fun _ => ?_) (fun h => by cases h)
        have hrl : row.length ≤ 4096 := hoki.1
        walk_at "u"
        refine ⟨c, us, row, v, R, rfl, li_any (s3 _ _ hc), dps_same s3 hU, by omega, hRu.same s3, hG, fun sa qs H4 s4 hsa hqs hsn => ?_⟩
        have s14 := s3.trans s4
        have hf4 := s4 _ _ hf3
        have hY4 := dps_same (same_del2 (a := fa) s4) hY3
        have ql : qs.length = (Sm.posOf R row).length := by rw [dps_len hqs, List.length_map]
        have chain := (Sm.chain_row R row).1
        have yl : ys.length = (Sm.docSegs R 0 (d.take i)).length := by rw [dps_len hY4, List.length_map]
        have hsf : sa ≠ fa := fun z => by rw [z, hf3] at hsn; cases hsn
        refine f_list (K := K) (a := sa) (xs := qs) (fun j σ H' => ∃ (v6 v7 : Option V) (ys' : List V), σ = [some (.ref la), some v, some (.ref fa), some (.int (i : Nat)), some (.bl false), some (.ref c), v6, v7] ∧ Same H H' ∧ H' fa = some (.lst ys') ∧ H' sa = some (.lst qs) ∧ DpAll K H' qs ((Sm.posOf R row).map encE) ∧
          DpAll K (del H' fa) ys' ((Sm.docSegs R 0 (d.take i) ++ ((Sm.posOf R row).take j).map (Sm.segP i row)).map encSg)) (li_any hsa) ⟨_, _, ys, rfl, s14, hf4, hsa, hqs, by rw [List.take_zero, List.map_nil, List.append_nil]; exact hY4⟩ (fun j σ H' _ ⟨_, _, _, _, _, _, g, _⟩ => li_any g) ?_ ?_
        · rintro j x σ H5 hx ⟨v6, v7, ys', rfl, s5, hf5, hsa5, hqs5, hY5⟩
          have hj : j < (Sm.posOf R row).length := by have := (List.getElem?_eq_some_iff.mp hx).1; rw [ql] at this; exact this
          obtain ⟨v2, hv2, hd2⟩ := dps_get hqs5 (i := j) (d := encE (Sm.posOf R row)[j]) (by rw [List.getElem?_map, List.getElem?_eq_getElem hj]; rfl)
          rw [hx] at hv2
          cases hv2
          have ep : (Sm.posOf R row).take (j + 1) = (Sm.posOf R row).take j ++ [(Sm.posOf R row)[j]] := by rw [List.take_add_one, List.getElem?_eq_getElem hj]; rfl
          have yl5 : ys'.length ≤ (Sm.docSegs R 0 (d.take i)).length + (Sm.posOf R row).length := by
            rw [dps_len hY5, List.length_map, List.length_append, List.length_map, List.length_take]
            omega
          generalize (Sm.posOf R row)[j] = y at hd2 ep
          obtain ⟨ta, rfl, hta⟩ := dp_pair hd2
          refine u_gt hta rfl ?_
          walk_at "u"
          refine ⟨u_lty hf5, ?_⟩
          walk_at "u"
          refine u_slL (li_any (s5 _ _ hc)) fun q hq => ?_
          rw [sl_enc]
          have n6 := same_new (o := .lst ((us.take y.2.2).drop y.2.1)) hq
          have e6 : upd H5 q (.lst ((us.take y.2.2).drop y.2.1)) q = some (.lst ((us.take y.2.2).drop y.2.1)) := upd_same
          generalize upd H5 q (.lst ((us.take y.2.2).drop y.2.1)) = H6 at n6 e6
          walk_at "u"
          refine ⟨by show 4 ≤ sizeLine; decide, fun p4 h4 => ?_⟩
          have n7 := same_new (o := .tup [.int (i : Nat), .int y.2.1, .int y.2.2, .ref q]) h4
          have e7 : upd H6 p4 (.tup [.int (i : Nat), .int y.2.1, .int y.2.2, .ref q]) p4 = some (.tup [.int (i : Nat), .int y.2.1, .int y.2.2, .ref q]) := upd_same
          have e67 := n7 _ _ e6
          generalize upd H6 p4 (.tup [.int (i : Nat), .int y.2.1, .int y.2.2, .ref q]) = H7 at n7 e7 e67
          have n57 := n6.trans n7
          have hf7 := n57 _ _ hf5
          have hqf : q ≠ fa := fun z => by rw [z, hf5] at hq; cases hq
          have hpf : p4 ≠ fa := fun z => by rw [z, hf7] at e7; cases e7
          walk_at "u"
          refine u_append hf7 (size_less (by omega)) ?_
          walk_at "u"
          refine ⟨_, _, ys' ++ [.ref p4], rfl, same_mut (s5.trans n57) hfa, upd_same, (upd_ne hsf).trans (n57 _ _ hsa5), (Kt.upd hf7 rfl).ds (tupDs_map tupD_E _) (dps_same n57 hqs5), ?_⟩
          rw [del_upd, ep, List.map_append (f := Sm.segP i row), ← List.append_assoc, List.map_append (f := encSg)]
          refine dps_app (dps_same (same_del2 n57) hY5) (dps_one ?_)
          refine .tup (SqT.of ((del_ne hpf).trans e7)) (.cons (.int _) (.cons (.int _) (.cons (.int _) (.cons (.lst (li_any ((del_ne hqf).trans e67)) ?_) .nil))))
          exact dps_sl _ _ (dps_same (same_del (s5.trans n57) hfa) hU)
        · rintro σ H5 ⟨v6, v7, ys', rfl, s5, hf5, hsa5, hqs5, hY5⟩
          rw [ql, List.take_length, ← edc] at hY5
          walk_at "u"
          exact ⟨_, _, _, _, _, ys', rfl, s5, hf5, hY5⟩
    · rintro σ H2 ⟨v3, v4, v5, v6, v7, ys, rfl, s2, hf2, hY⟩
      rw [wl, List.take_length] at hY
      walk_at "u"
      exact k fa ys H2 s2 hf2 (dps_same del_sub hY)
end
end Sr
namespace Sr
open PySem PySem.Spec PyProof.Rows L2
open Fh (Bytes)
theorem All2.perm {α : Type} {R : V → α → Prop} {ys xs : List V} (h : ys.Perm xs) : ∀ {as : List α}, All2 R xs as → ∃ bs, bs.Perm as ∧ All2 R ys bs := by
  induction h with
  | nil => intro as h; exact ⟨as, .refl _, h⟩
  | cons x _ ih =>
    intro as h
    cases h with
    | cons h r =>
      obtain ⟨bs, p, q⟩ := ih r
      exact ⟨_ :: bs, p.cons _, .cons h q⟩
  | swap x y l =>
    intro as h
    cases h with
    | cons h1 r =>
      cases r with
      | cons h2 r => exact ⟨_ :: _ :: _, .swap _ _ _, .cons h2 (.cons h1 r)⟩
  | trans _ _ ih1 ih2 =>
    intro as h
    obtain ⟨bs, p1, q1⟩ := ih2 h
    obtain ⟨cs, p2, q2⟩ := ih1 q1
    exact ⟨cs, p2.trans p1, q2⟩
theorem All2.mem {α : Type} {R : V → α → Prop} {vs : List V} {as : List α} (h : All2 R vs as) : ∀ {v : V}, v ∈ vs → ∃ a, a ∈ as ∧ R v a := by
  induction h with
  | nil => intro v hv; cases hv
  | cons h _ ih =>
    intro v hv
    rcases List.mem_cons.mp hv with rfl | hv
    · exact ⟨_, List.mem_cons_self, h⟩
    · obtain ⟨a, ha, hr⟩ := ih hv
      exact ⟨a, List.mem_cons_of_mem _ ha, hr⟩
/-- a piece's pair -/
def PairV (K : PySem.W.Frag) (H : Hp) (v : V) (p : Fh.Piece) : Prop := ∃ t, v = .ref t ∧ SqT K H t [.int (kindP p), .int (numP p : Nat)]
theorem pairs_of {K : PySem.W.Frag} {H : Hp} : ∀ {vs : List V} {row : Fh.Row}, DpAll K H vs (row.map encP) → All2 (PairV K H) vs row
  | _, [], .nil => .nil
  | _, p :: r, .cons h t => .cons (dp_piece h) (pairs_of t)
theorem of_pairs {K : PySem.W.Frag} {H : Hp} {vs : List V} {row : Fh.Row} (h : All2 (PairV K H) vs row) : DpAll K H vs (row.map encP) := by
  induction h with
  | nil => exact .nil
  | cons h _ ih =>
    obtain ⟨t, rfl, ht⟩ := h
    exact .cons (piece_dp ht) ih
def keyPr (p : Fh.Piece) : Int × Int := (kindP p, ((numP p : Nat) : Int))
theorem le_of_lex {p q : Fh.Piece} (h : SrtO.lexB (keyPr q) (keyPr p) = false) : Sm.leT p q := by
  have h := SrtO.lexB_no.mp h
  unfold Sm.leT
  cases p <;> cases q <;> simp [keyPr, kindP, numP, Sm.tagKey] at h ⊢ <;> omega
def rSortedPP (K : PySem.W.Frag) : List V → Hp → VK → Prop := fun vs H Q => ∃ (a : Addr) (xs : List V) (row : Fh.Row), vs = [V.ref a] ∧ SqL K H a xs ∧ All2 (PairV K H) xs row ∧
  ∀ ys tg p, tg.Perm row → tg.Pairwise Sm.leT → All2 (PairV K H) ys tg → H p = none → Q (.ref p) (upd H p (.lst ys))
def kvV (h : Heap) (v : Value) : Int × Int := match v with
  | .ref t => (match h.get? t with
    | some o => (match o.data with
      | .seq its _ => (match its.toList with
        | [.int i _, .int j _] => (i, j)
        | _ => (0, 0))
      | _ => (0, 0))
    | none => (0, 0))
  | _ => (0, 0)
theorem kv_of {h : Heap} {t : Addr} {o : Obj} {i j : Int} {t1 t2 : Tok} {n : Nat} (ho : h.get? t = some o) (hd : o.data = .seq #[.int i t1, .int j t2] n) : kvV h (.ref t) = (i, j) := by
  unfold kvV
  dsimp only
  rw [ho]
  dsimp only
  rw [hd]
theorem cr_sortedPP {X : Cx} (K : PySem.W.Frag) (hK : X.K = K := by rfl) : CallR X (.builtin "sorted") (rSortedPP K) := by
  subst hK
  intro pins s σ H vs us Q I r h
  obtain ⟨a, xs, row, rfl, hs, hx, q⟩ := h
  obtain ⟨its, rv, hl, hz⟩ := I.list hs
  obtain ⟨u, rfl, ru⟩ := vals1 r
  obtain rfl : u = Value.ref a := ru
  obtain ⟨e1, e2⟩ := refs_back rv fun x m => by
    obtain ⟨p, _, t, e, _⟩ := hx.mem m
    exact ⟨t, e⟩
  have pair : ∀ t p, SqT X.K H t [.int (kindP p), .int (numP p : Nat)] → ∃ o t1 t2 n, s.heap.get? t = some o ∧ o.cls = .type "tuple" ∧ o.data = .seq #[.int (kindP p) t1, .int ((numP p : Nat) : Int) t2] n := by
    intro t p ht
    obtain ⟨its2, r2, ⟨o, ho, hc, n, hd⟩, _⟩ := I.tuple ht
    obtain ⟨u1, u2, rfl, ri, rj⟩ := vals2 r2
    obtain ⟨t1, rfl⟩ := ri
    obtain ⟨t2, rfl⟩ := rj
    exact ⟨o, t1, t2, n, ho, hc, hd⟩
  have key : ∀ {out : List Value} {js : Fh.Row}, All2 (PairV X.K H) (out.map backV) js → (∀ u ∈ out, ∃ a, u = Value.ref a) → js.map keyPr = out.map (kvV s.heap) := by
    intro out
    induction out with
    | nil => intro js h _; cases h; rfl
    | cons u out ih =>
      intro js h hu
      obtain ⟨a, e⟩ := hu u List.mem_cons_self
      subst e
      cases h with
      | cons h t =>
        obtain ⟨b, eb, hb⟩ := h
        cases eb
        obtain ⟨o, t1, t2, n, ho, hc, hd⟩ := pair _ _ hb
        rw [List.map_cons, List.map_cons, kv_of ho hd, ih t (fun u hu' => hu u (List.mem_cons_of_mem _ hu'))]
        rfl
  refine SrtO.sorted_pairsO (k := kvV s.heap) hl.isList (by rw [← rv.length]; exact hz) (fun v hv => ?_) fun h' d out h1 h2 kp hd hn => ?_
  · obtain ⟨t, rfl⟩ := e2 v hv
    have hm : V.ref t ∈ xs := by rw [e1]; exact List.mem_map.mpr ⟨_, hv, rfl⟩
    obtain ⟨p, _, t', e, ht⟩ := hx.mem hm
    cases e
    obtain ⟨o, t1, t2, n, ho, hc, hd⟩ := pair _ _ ht
    have ek := kv_of ho hd
    rw [ek]
    exact ⟨t, o, t1, t2, n, rfl, ho, hc, hd⟩
  · have h3 : ∀ u ∈ out, ∃ a, u = Value.ref a := fun u hu => e2 u (h2.perm.mem_iff.mp hu)
    obtain ⟨n, hn⟩ := hn
    have hb : (out.map backV).Perm xs := by
      rw [e1]
      exact h2.perm.map backV
    obtain ⟨tg, p1, p2⟩ := All2.perm hb hx
    have ek := key p2 h3
    have hsrt : tg.Pairwise Sm.leT := by
      have g1 : (tg.map keyPr).Pairwise (fun x y => SrtO.lexB y x = false) := by
        rw [ek]
        exact List.pairwise_map.mpr h1
      exact (List.pairwise_map.mp g1).imp fun h => le_of_lex h
    refine ⟨.ref d, upd H d (.lst (out.map backV)), I.laid (t' := s.toks) kp hd ⟨?_, out, n, vals_back h3, hn⟩, rfl, q _ tg d p1 hsrt p2 (I.hok.fresh hd)⟩
    rw [hb.length_eq]
    exact hz
end Sr
namespace Sr
open PySem PySem.Spec PyProof.Rows L2
open Fh (Bytes)
theorem eqv_pc (p q : Fh.Piece) : PyData.eqv (encP p) (encP q) = decide (p = q) := by
  rw [encP_eq, encP_eq, PyData.eqv, PyData.eqvAll, PyData.eqvAll, PyData.eqvAll, PyData.eqv, PyData.eqv]
  have e : ∀ m n : Nat, (((m : Int) == (n : Int)) = decide (m = n)) := fun m n => by
    rw [Bool.eq_iff_iff, beq_iff_eq, decide_eq_true_eq]; omega
  cases p <;> cases q <;> simp [kindP, numP, e]
theorem eqv_rows : ∀ a b : Fh.Row, PyData.eqvAll (a.map encP) (b.map encP) = decide (a = b)
  | [], [] => rfl
  | [], _ :: _ => rfl
  | _ :: _, [] => rfl
  | p :: a, q :: b => by
    rw [List.map_cons, List.map_cons, PyData.eqvAll, eqv_pc, eqv_rows a b]
    by_cases h1 : p = q
    · subst h1
      by_cases h2 : a = b
      · subst h2; simp
      · simp [h2]
    · simp [h1]
theorem lay_row (a : Fh.Row) : PyData.canLayAll0 (a.map encP) = true ∧ PyData.depthAll (a.map encP) ≤ 1 := by
  induction a with
  | nil => exact ⟨by simp [PyData.canLayAll0], by simp [PyData.depthAll]⟩
  | cons p a ih =>
    rw [List.map_cons, encP_eq]
    refine ⟨?_, ?_⟩
    · rw [PyData.canLayAll0, ih.1]
      simp [PyData.canLay0, PyData.canLayAll0]
    · rw [PyData.depthAll]
      have : PyData.depth (PyData.tuple [.int (kindP p), .int (numP p : Nat)]) ≤ 1 := by simp [PyData.depth, PyData.depthAll]
      have := ih.2
      omega
theorem shaped_row (a : Fh.Row) : SeqAt.shaped (.list (a.map encP)) = true := by
  have h := lay_row a
  unfold SeqAt.shaped
  simp [PyData.canLay0, PyData.depth, h.1]
  omega
theorem tags_app (a b : Fh.Row) : Fh.tagsOf (a ++ b) = Fh.tagsOf a ++ Fh.tagsOf b := List.filter_append ..
section
variable {P : Program} {w : World} {K : PySem.W.Frag} {mg : Str → Option Value} {base : Heap}
def sp_tags_of (K : PySem.W.Frag) : Sp := fun vs H Q _ => ∃ (pl : Addr) (us : List V) (row : Fh.Row), vs = [.ref pl] ∧ SqL K H pl us ∧ DpAll K H us (row.map encP) ∧ row.length ≤ 900000 ∧
  ∀ (p : Addr) (ys : List V) (tg : Fh.Row) (H' : Hp), Same H H' → H' p = some (.lst ys) → DpAll K H' ys (tg.map encP) → tg.Perm (Fh.tagsOf row) → tg.Pairwise Sm.leT → Q (.ref p) H'
theorem ok_tags_of (T : Txt K mg) : FnOk P w K mg base CX0 1 T.f_tags_of.a T.f_tags_of.fd ["pieces"] (sp_tags_of K) := by
  refine T.f_tags_of.F.ok sc_tags_of (fun vs H Q E h => ?_) (fun cdv A outer s H vs Q E hr h => ⟨_, (pss_one (ps_ret (pe_callB (cr_sortedPP K) rfl T.b_sorted (by decide +kernel) (pa_cons (pe_lc (own := [("piece", 1)]) rfl sc_tags_of.nd (piLK K (pv 0)) (blkOk_by (own := [("piece", 1)]) (N := ["pieces", "piece"]) (sc := defScope s_tags_of) (by decide +kernel)) (fun _ _ _ _ _ => (pg_name (i := 1) sc_tags_of.nd rfl (Or.inl rfl))) (fun _ _ _ _ _ => (pts_one (pt_cmpR op_ne (pe_ix (ixTK K) (pv 1) pe_int (fun _ _ => rfl)) (pe_gi T.c_CHARACTER) (nomark _)))) (fun _ _ _ _ _ => (pv 1))) pa_nil)))), ?_⟩)
  · obtain ⟨_, _, _, rfl, _⟩ := h; rfl
  · obtain ⟨pl, us, row, rfl, hL, hD, hrl, k⟩ := h
    have el : us.length = row.length := by rw [dps_len hD, List.length_map]
    walk_at "u"
    refine c_list (K := K) (a := pl) (xs := us) (fun D j H' => Same H H' ∧ ∃ ws, H' D = some (.lst ws) ∧ DpAll K H' ws ((Fh.tagsOf (row.take j)).map encP)) hL (fun D hD => ⟨same_new hD, [], upd_same, .nil⟩) (fun D j H' hD _ ⟨s, _⟩ => same_l s hL) ?_ ?_
    · rintro D j x H' hDn hx ⟨s6, ws, hu, hW⟩
      have hi : j < row.length := by have := (List.getElem?_eq_some_iff.mp hx).1; rw [el] at this; exact this
      obtain ⟨v, hv2, hd⟩ := dps_get hD (i := j) (d := encP row[j]) (by rw [List.getElem?_map, List.getElem?_eq_getElem hi]; rfl)
      rw [hx] at hv2
      cases hv2
      have et : row.take (j + 1) = row.take j ++ [row[j]] := by rw [List.take_add_one, List.getElem?_eq_getElem hi]; rfl
      have wl : ws.length ≤ j := by
        rw [dps_len hW, List.length_map]
        refine Nat.le_trans (List.length_filter_le _ _) ?_
        rw [List.length_take]; omega
      generalize row[j] = p at hd et
      obtain ⟨a, rfl, ha⟩ := dp_piece (dp_same s6 hd)
      walk_at "u"
      refine ⟨rfl, ?_⟩
      walk_at "u"
      refine u_ixT ha rfl ?_
      walk_at "u"
      by_cases ht : p.isTag = true
      · have hk0 : kindP p ≠ 0 := by
          cases p with
          | char c => cases ht
          | open_ n => show (1 : Int) ≠ 0; decide
          | close n => show (2 : Int) ≠ 0; decide
          | alone n => show (3 : Int) ≠ 0; decide
        refine ite_d (fun _ => ?_) (fun h => absurd hk0 h)
        walk_at "u"
        refine ⟨ws, hu, size_less (by omega), same_mut s6 hDn, ws ++ [.ref a], upd_same, ?_⟩
        have e1 : Fh.tagsOf [p] = [p] := by
          show [p].filter Fh.Piece.isTag = [p]
          rw [List.filter_cons_of_pos ht]; rfl
        rw [et, tags_app, e1, List.map_append]
        have kt : Kt H' (upd H' D (.lst (ws ++ [.ref a]))) := Kt.upd hu rfl
        exact dps_app (kt.ds (tupDs_map tupD_P _) hW) (dps_one (kt.d (tupD_P p) (piece_dp ha)))
      · have hk0 : kindP p = 0 := by
          cases p with
          | char c => rfl
          | open_ n => exact absurd rfl ht
          | close n => exact absurd rfl ht
          | alone n => exact absurd rfl ht
        refine ite_d (fun h => absurd hk0 h) (fun _ => ?_)
        refine ⟨s6, ws, hu, ?_⟩
        have e1 : Fh.tagsOf [p] = [] := by
          show [p].filter Fh.Piece.isTag = []
          rw [List.filter_cons_of_neg ht]; rfl
        rw [et, tags_app, e1, List.append_nil]
        exact hW
    · rintro D H' hDn ⟨s6, ws, hu, hW⟩
      rw [el, List.take_length] at hW
      walk_at "u"
      refine ⟨D, ws, Fh.tagsOf row, rfl, li_any hu, pairs_of hW, fun ys tg p hp hsr hY hpn => ?_⟩
      have n7 := same_new (o := .lst ys) hpn
      exact k p ys tg _ (s6.trans n7) upd_same (dps_same n7 (of_pairs hY)) hp hsr
theorem eqv_half (h g : List Nat × List Nat) : PyData.eqv (.tuple [.list ((natI h.1).map PyData.int), .list ((natI h.2).map PyData.int)]) (.tuple [.list ((natI g.1).map PyData.int), .list ((natI g.2).map PyData.int)]) = decide (some g = some h) := by
  rw [PyData.eqv, PyData.eqvAll, PyData.eqvAll, PyData.eqvAll, PyData.eqv, PyData.eqv, eqv_ints, eqv_ints]
  obtain ⟨a, b⟩ := h
  obtain ⟨c, d⟩ := g
  have e : ∀ x y : List Nat, (natI x = natI y) ↔ x = y := fun x y => ⟨fun z => by
    unfold natI at z
    exact Sm.map_inj (f := fun (c : Nat) => (c : Int)) (fun _ _ q => by omega) x y z, fun z => by rw [z]⟩
  dsimp only
  by_cases h1 : a = c
  · subst h1
    by_cases h2 : b = d
    · subst h2; simp
    · simp [e, h2]
      intro z; exact absurd z.symm h2
  · simp [e, h1]
    intro z; exact absurd z.symm h1
def sp_is_fitting (K : PySem.W.Frag) : Sp := fun vs H Q _ => ∃ (pl ql : Addr) (us ws : List V) (t s : Fh.Row), vs = [.ref pl, .ref ql] ∧ SqL K H pl us ∧ DpAll K H us (t.map encP) ∧ t.length ≤ 900000 ∧ SqL K H ql ws ∧ DpAll K H ws (s.map encP) ∧ s.length ≤ 900000 ∧ ∀ r, r = Fh.fits s t → ∀ H', Same H H' → Q (.bl r) H'
theorem ok_is_fitting (T : Txt K mg) : FnOk P w K mg base CX0 3 T.f_is_fitting.a T.f_is_fitting.fd ["target", "segment"] (sp_is_fitting K) := by
  refine T.f_is_fitting.F.ok sc_is_fitting (fun vs H Q E h => ?_) (fun cdv A outer s H vs Q E hr h => ⟨_, (pss_cons (ps_set (i := 2) sc_is_fitting.nd rfl (Or.inl rfl) (pe_call (ok_halves_of T) (hr.mono (by decide)) rfl T.f_halves_of.g T.f_halves_of.F.kp T.f_halves_of.b .nil pass0 (pa_cons (pv 0) pa_nil)))
 (pss_one (ps_ret (pe_and (pe_cmpR op_notN1 (pv 2) pe_non (nomark _)) (pe_and (pe_cmpR (eqDK K hr.units) (pe_call (ok_tags_of T) (hr.mono (by decide)) rfl T.f_tags_of.g T.f_tags_of.F.kp T.f_tags_of.b .nil pass0 (pa_cons (pv 0) pa_nil)) (pe_call (ok_tags_of T) (hr.mono (by decide)) rfl T.f_tags_of.g T.f_tags_of.F.kp T.f_tags_of.b .nil pass0 (pa_cons (pv 1) pa_nil)) (nomark _)) (pe_one (pe_cmpR (eqDK K hr.units) (pv 2) (pe_call (ok_halves_of T) (hr.mono (by decide)) rfl T.f_halves_of.g T.f_halves_of.F.kp T.f_halves_of.b .nil pass0 (pa_cons (pv 1) pa_nil)) (nomark _)))))))), ?_⟩)
  · obtain ⟨_, _, _, _, _, _, rfl, _⟩ := h; rfl
  · obtain ⟨pl, ql, us, ws, t, s0, rfl, hL, hD, htl, hL2, hD2, hsl, k⟩ := h
    walk_at "u"
    refine ⟨pl, us, t, rfl, hL, hD, htl, fun hN H1 s1 => ?_, fun h hS p la pa H1 s1 hp hla hpa => ?_⟩
    · have hf : Fh.fits s0 t = false := by
        unfold Fh.fits
        rw [Sm.halvesP_straight] at hN
        by_cases c : Fh.straight t = true
        · rw [if_pos c] at hN
          unfold Fh.straight at c
          rw [hN] at c
          cases c
        · have : Fh.straight t = false := by
            cases z : Fh.straight t with
            | true => exact absurd z c
            | false => rfl
          rw [this]; rfl
      walk_at "u"
      refine ⟨rfl, ?_⟩
      walk_at "u"
      exact k _ hf.symm _ s1
    · walk_at "u"
      refine ⟨rfl, ?_⟩
      walk_at "u"
      refine ite_nd (fun _ => ?_) (fun h => by cases h)
      walk_at "u"
      refine ⟨pl, us, t, rfl, same_l s1 hL, dps_same s1 hD, htl, fun p1 ys1 t1 H2 s2 hp1 hY1 pe1 so1 => ?_⟩
      have s12 := s1.trans s2
      walk_at "u"
      refine ⟨ql, ws, s0, rfl, same_l s12 hL2, dps_same s12 hD2, hsl, fun p2 ys2 t2 H3 s3 hp2 hY2 pe2 so2 => ?_⟩
      have s13 := s12.trans s3
      have hfit := Sm.fits_prog pe1 pe2 so1 so2
      rw [hS] at hfit
      dsimp only at hfit
      refine ⟨_, _, .lst (li_any (s3 _ _ hp1)) (dps_same s3 hY1), .lst (li_any hp2) hY2, shaped_row _, shaped_row _, ?_⟩
      rw [PyData.eqv, eqv_rows]
      walk_at "u"
      refine ite_d (fun h1 => ?_) (fun h1 => ?_)
      · rw [decide_eq_true h1, Bool.true_and] at hfit
        walk_at "u"
        have hp3 := same_t (s2.trans s3) hp
        have hla3 := same_l (s2.trans s3) hla
        have hpa3 := same_l (s2.trans s3) hpa
        refine ⟨ql, ws, s0, rfl, same_l s13 hL2, dps_same s13 hD2, hsl, fun hN H4 s4 => ?_, fun g hG p4 la4 pa4 H4 s4 hp4 hla4 hpa4 => ?_⟩
        · rw [hN] at hfit
          refine ⟨_, .none, .tup (same_t s4 hp3) (.cons (.lst (same_l s4 hla3) (dp_ints _)) (.cons (.lst (same_l s4 hpa3) (dp_ints _)) .nil)), .non, shaped_two _ _, by decide +kernel, ?_⟩
          exact k _ hfit.symm _ (s13.trans s4)
        · rw [hG] at hfit
          refine ⟨_, _, .tup (same_t s4 hp3) (.cons (.lst (same_l s4 hla3) (dp_ints _)) (.cons (.lst (same_l s4 hpa3) (dp_ints _)) .nil)), .tup hp4 (.cons (.lst hla4 (dp_ints _)) (.cons (.lst hpa4 (dp_ints _)) .nil)), shaped_two _ _, shaped_two _ _, ?_⟩
          rw [eqv_half]
          exact k _ hfit.symm _ (s13.trans s4)
      · rw [decide_eq_false h1, Bool.false_and] at hfit
        exact k _ hfit.symm _ s13
end
end Sr
namespace Sr
open PySem PySem.Spec PyProof.Rows L2
open Fh (Bytes)
/-- a target, as the program holds it -/
def TgAt (K : PySem.W.Frag) (H : Hp) (v : V) (t : Fh.Target) : Prop := match t with
  | none => v = .non
  | some r => ∃ (l : Addr) (us : List V), v = .ref l ∧ H l = some (.lst us) ∧ DpAll K H us (r.map encP)
theorem TgAt.same {K : PySem.W.Frag} {H H' : Hp} (s : Same H H') {v : V} {t : Fh.Target} (h : TgAt K H v t) : TgAt K H' v t := by
  cases t with
  | none => exact h
  | some r =>
    obtain ⟨l, us, e, h1, h2⟩ := h
    exact ⟨l, us, e, s _ _ h1, dps_same s h2⟩
def TgF (K : PySem.W.Frag) (H H' : Hp) (v : V) (t : Fh.Target) : Prop := TgAt K H' v t ∧ ∀ la xs, H la = some (.lst xs) → TgAt K (del H' la) v t
section
variable {P : Program} {w : World} {K : PySem.W.Frag} {mg : Str → Option Value} {base : Heap}
def sp_sign_fault (K : PySem.W.Frag) : Sp := fun vs H Q _ => ∃ (a : Addr) (b : Bytes) (i : Nat), vs = [.ref a, .int i, .int ((i + Sm.lineN (b.drop i) : Nat) : Int)] ∧ LI K H a (bI b) ∧ i < b.length ∧ b.length ≤ 900000 ∧ ∀ r, r = faultZ (Sm.signF i (b.drop i)) → ∀ H', Same H H' → Q (.int r) H'
theorem ok_sign_fault (T : Txt K mg) : FnOk P w K mg base CX0 1 T.f_sign_fault.a T.f_sign_fault.fd ["octets", "at", "end"] (sp_sign_fault K) := by
  refine T.f_sign_fault.F.ok sc_sign_fault (fun vs H Q E h => ?_) (fun cdv A outer s H vs Q E hr h => ⟨_, (pss_cons (ps_if (pt_cmpR (ninK K) (pe_ix (ixLK K) (pv 0) (pv 1) (fun _ _ => rfl)) (pe_tup (pa_cons (pe_gi T.c_TAKEN) (pa_cons (pe_gi T.c_KEPT) pa_nil))) (by rfl)) (pss_one (ps_ret (pv 1))) pss_nil)
 (pss_cons (ps_if (PW.pt (pw_and (pt_cmpR op_eq (pe_ix (ixLK K) (pv 0) (pv 1) (fun _ _ => rfl)) (pe_gi T.c_KEPT) (nomark _)) (pw_and1 (pt_cmpR op_gt (pv 2) (pe_op op_add (pv 1) pe_int) (nomark _))))) (pss_one (ps_ret (pe_op op_add (pv 1) pe_int))) pss_nil)
 (pss_one (ps_ret (pe_ifExp (pt_cmpR op_eq (pv 2) (pe_callB (cr_len K) rfl T.b_len PySem.boot_len (pa_cons (pv 0) pa_nil)) (nomark _)) (pv 2) (pe_un un_neg pe_int)))))), ?_⟩)
  · obtain ⟨_, _, _, rfl, _⟩ := h; rfl
  · obtain ⟨a, b, i, rfl, hL, hi, hbl, k⟩ := h
    have hg : b[i]? = some b[i] := List.getElem?_eq_getElem hi
    have hlen : (b.drop i).length = b.length - i := List.length_drop ..
    rw [List.drop_eq_getElem_cons hi, Sm.sign_cons, ← List.drop_eq_getElem_cons hi] at k
    generalize b[i] = c at hg k
    generalize Sm.lineN (b.drop i) = X at k
    rw [hlen] at k
    walk_at "u"
    refine u_ixL hL (at_int (j := i) rfl (bI_at hg)) ?_
    walk_at "u"
    refine ⟨by show 2 ≤ sizeLine; decide, fun p hp => ?_⟩
    have s1 := same_new (o := .tup [.int 61, .int 45]) hp
    refine u_nin (Or.inr (SqT.of upd_same)) rfl rfl ?_
    have e1 : inV (.int (c.toNat : Int)) [.int 61, .int 45] = decide (c.toNat = 61 ∨ c.toNat = 45) := by
      simp only [inV, List.any_cons, eqV, List.any_nil, Bool.or_false]
      rw [Bool.eq_iff_iff]
      simp only [Bool.or_eq_true, beq_iff_eq, decide_eq_true_eq]
      omega
    rw [e1]
    generalize upd H p (.tup [.int 61, .int 45]) = H1 at s1
    walk_at "u"
    refine ite_nd (fun h1 => ?_) (fun h1 => ?_)
    · rw [if_pos h1] at k
      walk_at "u"
      exact k _ rfl _ s1
    · rw [if_neg (fun z => z h1)] at k
      walk_at "u"
      refine u_ixL (same_l s1 hL) (at_int (j := i) rfl (bI_at hg)) ?_
      walk_at "u"
      have fin : ¬ (c.toNat = 45 ∧ 1 < X) → ∀ (σ : L2.St), σ[0]? = some (some (.ref a)) → σ[2]? = some (some (.int ((i + X : Nat) : Int))) →
          tRet (tIf (tTest (tOp rEq (tVar 2) (tCB (rLen K) (tCons (tVar 0) tNil)))) (tVar 2) (tUn (rU fun i => .int (-i)) (tC (.int 1)))) { nx := fun _ H' => Q .non H', rt := Q } σ H1 := by
        intro hn σ h0 h2
        rw [if_neg hn] at k
        walk_at "u"
        refine u_var h2 ?_
        walk_at "u"
        refine u_var h0 ?_
        walk_at "u"
        refine u_lenL (same_l s1 hL) ?_
        walk_at "u"
        rw [map_int_len, bI_len]
        refine ite_d (fun h2' => ?_) (fun h2' => ?_)
        · rw [if_pos (by omega)] at k
          refine u_var h2 ?_
          exact k _ rfl _ s1
        · rw [if_neg (by omega)] at k
          walk_at "u"
          exact k _ rfl _ s1
      refine ite_d (fun h2 => ?_) (fun h2 => ?_)
      · walk_at "u"
        refine ite_d (fun h3 => ?_) (fun h3 => ?_)
        · have h3' : ((i + X : Nat) : Int) > (i : Int) + 1 := h3
          rw [if_pos ⟨by omega, by omega⟩] at k
          walk_at "u"
          exact k _ (by show (i : Int) + 1 = ((i + 1 : Nat) : Int); omega) _ s1
        · have h3' : ¬ ((i + X : Nat) : Int) > (i : Int) + 1 := h3
          refine u_next ?_
          exact fin (fun z => h3' (by omega)) _ rfl rfl
      · refine u_next ?_
        exact fin (fun z => h2 (by omega)) _ rfl rfl
def sp_read_target (K : PySem.W.Frag) : Sp := fun vs H Q _ => ∃ (a ql : Addr) (b : Bytes) (i n : Nat) (ws : List V) (s : Fh.Row), vs = [.ref a, .int i, .int ((i + Sm.lineN (b.drop i) : Nat) : Int), .ref ql] ∧ LI K H a (bI b) ∧ i < b.length ∧ b.length ≤ 900000 ∧ SqL K H ql ws ∧ DpAll K H ws (s.map encP) ∧ s.length ≤ 900000 ∧
  (∀ z, Sm.tgOne i n s (b.drop i) = .error z → ∀ q v w H', Same H H' → SqT K H' q [v, .int (z.1 : Nat), .int w] → 0 < z.1 → (z.1 = 4 → z.2 = n) → (z.1 ≠ 4 → w = (z.2 : Nat)) → Q (.ref q) H') ∧
  ∀ t, Sm.tgOne i n s (b.drop i) = .ok t → ∀ q v H', Same H H' → SqT K H' q [v, .int 0, .int 0] → TgF K H H' v t → Q (.ref q) H'
theorem ok_read_target (T : Txt K mg) : FnOk P w K mg base CX0 5 T.f_read_target.a T.f_read_target.fd ["octets", "at", "end", "segment"] (sp_read_target K) := by
  refine T.f_read_target.F.ok sc_read_target (fun vs H Q E h => ?_) (fun cdv A outer s H vs Q E hr h => ⟨_, (pss_cons (ps_set (i := 4) sc_read_target.nd rfl (Or.inl rfl) (pe_call (ok_sign_fault T) (hr.mono (by decide)) rfl T.f_sign_fault.g T.f_sign_fault.F.kp T.f_sign_fault.b .nil pass0 (pa_cons (pv 0) (pa_cons (pv 1) (pa_cons (pv 2) pa_nil)))))
 (pss_cons (ps_if (pt_cmpR op_ge (pv 4) pe_int (nomark _)) (pss_one (ps_ret (pe_tup (pa_cons pe_non (pa_cons pe_int (pa_cons (pv 4) pa_nil)))))) pss_nil)
 (pss_cons (ps_if (pt_cmpR op_eq (pe_ix (ixLK K) (pv 0) (pv 1) (fun _ _ => rfl)) (pe_gi T.c_KEPT) (nomark _)) (pss_one (ps_ret (pe_tup (pa_cons pe_non (pa_cons pe_int (pa_cons pe_int pa_nil)))))) pss_nil)
 (pss_cons (ps_asg (pe_call (ok_read_row T) (hr.mono (by decide)) rfl T.f_read_row.g T.f_read_row.F.kp T.f_read_row.b .nil pass0 (pa_cons (pv 0) (pa_cons (pe_op op_add (pv 1) pe_int) (pa_cons (pv 2) pa_nil)))) (gtK K (n := 2) rfl (pgs_cons (pg_name (i := 5) sc_read_target.nd rfl (Or.inl rfl)) (pgs_cons (pg_name (i := 4) sc_read_target.nd rfl (Or.inl rfl)) pgs_nil))))
 (pss_cons (ps_if (pt_cmpR op_ge (pv 4) pe_int (nomark _)) (pss_one (ps_ret (pe_tup (pa_cons pe_non (pa_cons pe_int (pa_cons (pv 4) pa_nil)))))) pss_nil)
 (pss_cons (ps_if (pt_cmpR op_gt (pe_callB (cr_len K) rfl T.b_len PySem.boot_len (pa_cons (pv 5) pa_nil)) (pe_gi T.c_MOST_PIECES) (nomark _)) (pss_one (ps_ret (pe_tup (pa_cons pe_non (pa_cons pe_int (pa_cons (pv 1) pa_nil)))))) pss_nil)
 (pss_cons (ps_if (pt_not (pt_val (pe_call (ok_is_fitting T) (hr.mono (by decide)) rfl T.f_is_fitting.g T.f_is_fitting.F.kp T.f_is_fitting.b .nil pass0 (pa_cons (pv 5) (pa_cons (pv 3) pa_nil))))) (pss_one (ps_ret (pe_tup (pa_cons pe_non (pa_cons pe_int (pa_cons (pe_un un_neg pe_int) pa_nil)))))) pss_nil)
 (pss_one (ps_ret (pe_tup (pa_cons (pv 5) (pa_cons pe_int (pa_cons pe_int pa_nil))))))))))))), ?_⟩)
  · obtain ⟨_, _, _, _, _, _, _, rfl, _⟩ := h; rfl
  · obtain ⟨a, ql, b, i, n, ws, s0, rfl, hL, hi, hbl, hQ, hW, hsl, kE, kO⟩ := h
    have hne : b.drop i ≠ [] := fun z => by have := congrArg List.length z; rw [List.length_drop, List.length_nil] at this; omega
    unfold Sm.tgOne at kE kO
    walk_at "u"
    refine ⟨a, b, i, rfl, hL, hi, hbl, fun r hr H1 s1 => ?_⟩
    walk_at "u"
    have out : ∀ (σ : L2.St) (H2 : Hp) (kd : Nat) (w : Int) (te : TE), Same H H2 → (∀ Q' H3, Same H2 H3 → Q' (.int w) H3 → te σ H3 Q') → ∀ z : Fh.Bad, (match Sm.signF i (b.drop i) with | some p => .error (1, p) | none => FhSegs.targetRead i n s0 ((b.drop i).take (Sm.lineN (b.drop i))) : Except Fh.Bad Fh.Target) = .error z → z.1 = kd → 0 < kd → (kd = 4 → z.2 = n) → (kd ≠ 4 → w = (z.2 : Nat)) →
        tRet (tTup (tCons (tC .non) (tCons (tC (.int (kd : Nat))) (tCons te tNil)))) { nx := fun _ H' => Q .non H', rt := Q } σ H2 := by
      rintro σ H2 kd w te s2 hte z hz rfl h0 h4 h5
      walk_at "u"
      refine hte _ _ (Same.refl _) ?_
      walk_at "u"
      refine ⟨by show 3 ≤ sizeLine; decide, fun q hq => ?_⟩
      exact kE z hz q .non w _ (s2.trans (same_new hq)) (SqT.of upd_same) h0 h4 h5
    cases hs : Sm.signF i (b.drop i) with
    | some p =>
      rw [hs] at hr kE out
      subst hr
      refine ite_d (fun _ => ?_) (fun h => absurd (show ((p : Nat) : Int) ≥ 0 by omega) h)
      exact out _ H1 1 p _ s1 (fun Q' H3 _ hq => u_var rfl hq) (1, p) rfl rfl (by decide) (fun z => by cases z) (fun _ => rfl)
    | none =>
      rw [hs] at hr kE kO out
      subst hr
      obtain ⟨hll, ⟨c, b', hcr, hcc⟩, _⟩ := Sm.tg_late (f := 0) (n := n) (s := s0) (ss := []) (l := []) hne hs
      have hcut : cutB b i (i + Sm.lineN (b.drop i)) = c :: b' := by rw [cut_line]; exact hcr
      rw [List.length_drop] at hll
      have hpos : 0 < Sm.lineN (b.drop i) := by
        have := congrArg List.length hcr
        rw [List.length_take, List.length_cons] at this
        omega
      obtain ⟨c', hc', hcut'⟩ := cutB_cons (b := b) (i := i) (e := i + Sm.lineN (b.drop i)) (by omega) (by omega)
      rw [hcut] at hcut'
      injection hcut' with e1 e2
      subst e1
      subst e2
      generalize Sm.lineN (b.drop i) = N at hcr hcc hll hpos hcut kE kO out
      refine ite_d (fun h => absurd h (show ¬ (-1 : Int) ≥ 0 by decide)) (fun _ => ?_)
      walk_at "u"
      refine u_ixL (same_l s1 hL) (at_int (j := i) rfl (bI_at hc')) ?_
      walk_at "u"
      rcases hcc with ⟨h5, h6, h7⟩ | ⟨h5, h7⟩
      · rw [h7] at kO
        refine ite_d (fun _ => ?_) (fun h => absurd (show (c.toNat : Int) = 45 by omega) h)
        walk_at "u"
        refine ⟨by show 3 ≤ sizeLine; decide, fun q hq => ?_⟩
        exact kO none rfl q .non _ (s1.trans (same_new hq)) (SqT.of upd_same) ⟨rfl, fun _ _ _ => rfl⟩
      · rw [h7] at kE kO out
        refine ite_d (fun h => absurd h (show ¬ (c.toNat : Int) = 45 by omega)) (fun _ => ?_)
        walk_at "u"
        have ei : (i : Int) + 1 = ((i + 1 : Nat) : Int) := by omega
        rw [ei]
        refine ⟨a, b, i + 1, i + N, rfl, same_l s1 hL, by omega, by omega, hbl, fun j hj p v H2 s2 hp => ?_, fun x hx p l us H2 s2 hp hl hD hxl hln hll2 => ?_⟩
        · rw [hj] at out
          refine u_gt hp rfl ?_
          walk_at "u"
          refine ite_d (fun _ => ?_) (fun h => absurd (show ((i + 1 + j : Nat) : Int) ≥ 0 by omega) h)
          exact out _ H2 2 ((i + 1 + j : Nat) : Int) _ (s1.trans s2) (fun Q' H3 _ hq => u_var rfl hq) (2, i + 1 + j) rfl rfl (by decide) (fun z => by cases z) (fun _ => rfl)
        · rw [hx] at kE kO out
          dsimp only at kE kO out
          have hul : us.length = x.length := by rw [dps_len hD, List.length_map]
          refine u_gt hp rfl ?_
          walk_at "u"
          refine ite_d (fun h => absurd h (show ¬ (-1 : Int) ≥ 0 by decide)) (fun _ => ?_)
          walk_at "u"
          refine u_lenL hl ?_
          walk_at "u"
          refine ite_d (fun h3 => ?_) (fun h3 => ?_)
          · have h3' : Fh.PIECES < x.length := by show 4096 < x.length; omega
            rw [if_pos h3'] at out
            exact out _ H2 3 (i : Int) _ (s1.trans s2) (fun Q' H3 _ hq => u_var rfl hq) (3, i) rfl rfl (by decide) (fun z => by cases z) (fun _ => rfl)
          · have h3' : ¬ Fh.PIECES < x.length := by show ¬ 4096 < x.length; omega
            rw [if_neg h3'] at kE kO out
            walk_at "u"
            have s12 := s1.trans s2
            refine ⟨l, ql, us, ws, x, s0, rfl, hl, hD, by omega, same_l s12 hQ, dps_same s12 hW, hsl, fun r hr H3 s3 => ?_⟩
            walk_at "u"
            refine ite_nb (fun h4 => ?_) (fun h4 => ?_)
            · rw [if_neg (by rw [← hr, h4]; decide)] at out
              exact out _ H3 4 (-1) _ (s12.trans s3) (fun Q' H4 _ hq => u_un (u_c (u_U hq))) (4, n) rfl rfl (by decide) (fun _ => rfl) (fun z => absurd rfl z)
            · rw [if_pos (hr.symm.trans h4)] at kO
              walk_at "u"
              refine ⟨by show 3 ≤ sizeLine; decide, fun q hq => ?_⟩
              have n4 := same_new (o := .tup [.ref l, .int 0, .int 0]) hq
              have s24 := s3.trans n4
              have g2 := s24 _ _ hll2
              have g3 := dps_same s24 hD
              refine kO (some x) rfl q (.ref l) _ (s12.trans s24) (SqT.of upd_same) ⟨⟨l, us, rfl, g2, g3⟩, fun la xs hla => ⟨l, us, rfl, ?_, ?_⟩⟩
              · rw [del_ne (fun z => by rw [z, s1 _ _ hla] at hln; cases hln)]; exact g2
              · exact (Kt.del ((s12.trans s24) _ _ hla) rfl).ds (tupDs_map tupD_P _) g3
end
end Sr
namespace Sr
open PySem PySem.Spec PyProof.Rows L2
open Fh (Bytes)
theorem cut_from (xs : List V) (g : Nat) : cutV xs (some (g : Int)) none = xs.drop g := by
  unfold cutV
  rw [HT.sIx_nat]
  have e : HT.sIx xs.length xs.length none = xs.length := rfl
  rw [e]
  rcases Nat.le_total g xs.length with h | h
  · rw [Nat.min_eq_left h, List.take_of_length_le (by rw [List.length_drop]; omega)]
  · rw [Nat.min_eq_right h, Nat.sub_self, List.take_zero, List.drop_eq_nil_of_le h]
/-- a row as a list -/
def encRL (r : Fh.Row) : PyData := .list (r.map encP)
theorem dp_rl {K : PySem.W.Frag} {H : Hp} {v : V} {r : Fh.Row} (h : Dp K H v (encRL r)) : ∃ c us, v = .ref c ∧ SqL K H c us ∧ DpAll K H us (r.map encP) := by
  cases h with
  | lst h1 h2 => exact ⟨_, _, rfl, h1, h2⟩
section
variable {P : Program} {w : World} {K : PySem.W.Frag} {mg : Str → Option Value} {base : Heap}
def sp_read_targets (K : PySem.W.Frag) : Sp := fun vs H Q _ => ∃ (a sl : Addr) (b : Bytes) (qs : List V) (S : List Fh.Row), vs = [.ref a, .ref sl] ∧ LI K H a (bI b) ∧ b.length ≤ 900000 ∧ SqL K H sl qs ∧ DpAll K H qs (S.map encRL) ∧ S.length ≤ 900000 ∧ (∀ r ∈ S, r.length ≤ 900000) ∧
  (∀ z, FhSegs.targetsFrom (b.length + 1) 0 0 S [] b = .error z → ∀ q v H', Same H H' → SqT K H' q [v, .int (z.1 : Nat), .int (z.2 : Nat)] → 0 < z.1 → Q (.ref q) H') ∧
  ∀ x, FhSegs.targetsFrom (b.length + 1) 0 0 S [] b = .ok x → ∀ q fa ts H', Same H H' → SqT K H' q [.ref fa, .int 0, .int 0] → H' fa = some (.lst ts) → All2 (TgAt K H') ts x → Q (.ref q) H'
theorem ok_read_targets (T : Txt K mg) : FnOk P w K mg base CX0 6 T.f_read_targets.a T.f_read_targets.fd ["octets", "segments"] (sp_read_targets K) := by
  refine T.f_read_targets.F.ok sc_read_targets (fun vs H Q E h => ?_) (fun cdv A outer s H vs Q E hr h => ⟨_, (pss_cons (ps_par (i := 2) (j := 3) (by rfl) sc_read_targets.nd rfl rfl (by decide) rfl rfl (pa_cons (pe_lst pa_nil) (pa_cons pe_int pa_nil)) (by rfl))
 (pss_cons (ps_while PassesOwn.never (pt_cmpR op_lt (pv 3) (pe_callB (cr_len K) rfl T.b_len PySem.boot_len (pa_cons (pv 0) pa_nil)) (nomark _)) (pss_cons (ps_if (pt_cmpR op_eq (pe_callB (cr_len K) rfl T.b_len PySem.boot_len (pa_cons (pv 2) pa_nil)) (pe_callB (cr_len K) rfl T.b_len PySem.boot_len (pa_cons (pv 1) pa_nil)) (nomark _)) (pss_one (ps_ret (pe_tup (pa_cons (pv 2) (pa_cons pe_int (pa_cons (pv 3) pa_nil)))))) pss_nil)
 (pss_cons (ps_set (i := 4) sc_read_targets.nd rfl (Or.inl rfl) (pe_call (ok_line_end T) (hr.mono (by decide)) rfl T.f_line_end.g T.f_line_end.F.kp T.f_line_end.b .nil pass0 (pa_cons (pv 0) (pa_cons (pv 3) pa_nil))))
 (pss_cons (ps_asg (pe_call (ok_read_target T) (hr.mono (by decide)) rfl T.f_read_target.g T.f_read_target.F.kp T.f_read_target.b .nil pass0 (pa_cons (pv 0) (pa_cons (pv 3) (pa_cons (pv 4) (pa_cons (pe_ix (ixLK K) (pv 1) (pe_callB (cr_len K) rfl T.b_len PySem.boot_len (pa_cons (pv 2) pa_nil)) (fun _ _ => rfl)) pa_nil))))) (gtK K (n := 3) rfl (pgs_cons (pg_name (i := 5) sc_read_targets.nd rfl (Or.inl rfl)) (pgs_cons (pg_name (i := 6) sc_read_targets.nd rfl (Or.inl rfl)) (pgs_cons (pg_name (i := 7) sc_read_targets.nd rfl (Or.inl rfl)) pgs_nil)))))
 (pss_cons (ps_if (pt_cmpR op_gt (pv 6) pe_int (nomark _)) (pss_one (ps_ret (pe_tup (pa_cons (pv 2) (pa_cons (pv 6) (pa_cons (pe_ifExp (pt_cmpR op_eq (pv 6) pe_int (nomark _)) (pe_callB (cr_len K) rfl T.b_len PySem.boot_len (pa_cons (pv 2) pa_nil)) (pv 7)) pa_nil)))))) pss_nil)
 (pss_cons (ps_expr (bmK K PySem.F.plainAttrs_list PySem.F.slot_list_append PySem.F.type_list_append mt_append (pv 2) (pa_cons (pv 5) pa_nil)))
 (pss_one (ps_set (i := 3) sc_read_targets.nd rfl (Or.inl rfl) (pe_op op_add (pv 4) pe_int)))))))))
 (pss_one (ps_ret (pe_ifExp (pt_cmpR op_eq (pe_callB (cr_len K) rfl T.b_len PySem.boot_len (pa_cons (pv 2) pa_nil)) (pe_callB (cr_len K) rfl T.b_len PySem.boot_len (pa_cons (pv 1) pa_nil)) (nomark _)) (pe_tup (pa_cons (pv 2) (pa_cons pe_int (pa_cons pe_int pa_nil)))) (pe_tup (pa_cons (pv 2) (pa_cons pe_int (pa_cons (pe_callB (cr_len K) rfl T.b_len PySem.boot_len (pa_cons (pv 0) pa_nil)) pa_nil))))))))), ?_⟩)
  · obtain ⟨_, _, _, _, _, rfl, _⟩ := h; rfl
  · obtain ⟨a, sl, b, qs, S, rfl, hL, hbl, hS, hSD, hSl, hSr, kE, kO⟩ := h
    have ql : qs.length = S.length := by rw [dps_len hSD, List.length_map]
    generalize hR0 : FhSegs.targetsFrom (b.length + 1) 0 0 S [] b = R at kE kO
    walk_at "u"
    refine ⟨by show 0 ≤ sizeLine; decide, fun fa hfa => ?_⟩
    walk_at "u"
    refine f_while (fun m σ H' => ∃ (n : Nat) (l : List Fh.Target) (ts : List V) (v4 v5 v6 v7 : Option V), σ = [some (.ref a), some (.ref sl), some (.ref fa), some (.int (n : Nat)), v4, v5, v6, v7] ∧ Same H H' ∧ H' fa = some (.lst ts) ∧ All2 (TgAt K (del H' fa)) ts l.reverse ∧
        R = FhSegs.targetsFrom m n l.length (S.drop l.length) l (b.drop n) ∧ n ≤ b.length ∧ b.length - n ≤ m ∧ l.length ≤ n ∧ l.length ≤ S.length) (m := b.length + 1)
      ⟨0, [], [], none, none, none, none, rfl, same_new hfa, upd_same, .nil, hR0.symm, Nat.zero_le _, by omega, Nat.le_refl _, Nat.zero_le _⟩ ?_
    rintro m σ H2 ⟨n, l, ts, v4, v5, v6, v7, rfl, s2, hf2, hT, hR, hn, hm, hln, hlS⟩
    have tl : ts.length = l.length := by rw [hT.len, List.length_reverse]
    walk_at "u"
    refine u_lenL (same_l s2 hL) ?_
    walk_at "u"
    rw [map_int_len, bI_len]
    refine ite_d (fun h1 => ?_) (fun h1 => ?_)
    · have hlt : n < b.length := by omega
      obtain ⟨m, rfl⟩ : ∃ j, m = j + 1 := ⟨m - 1, by omega⟩
      have hL2 := same_l s2 hL
      have hS2 := same_l s2 hS
      refine u_body ?_
      walk_at "u"
      refine u_lenL (li_any hf2) ?_
      walk_at "u"
      refine u_lenL hS2 ?_
      walk_at "u"
      rw [tl, ql]
      have hne : b.drop n ≠ [] := fun z => by have := congrArg List.length z; rw [List.length_drop, List.length_nil] at this; omega
      refine ite_d (fun h2 => ?_) (fun h2 => ?_)
      · have hz : R = .error (5, n) := by
          rw [hR, List.drop_eq_nil_of_le (by omega)]
          cases hd : b.drop n with
          | nil => exact absurd hd hne
          | cons c b' => exact Sm.tg_more
        walk_at "u"
        refine ⟨by show 3 ≤ sizeLine; decide, fun q hq => ?_⟩
        exact kE _ hz q (.ref fa) _ (same_then s2 hq) (SqT.of upd_same) (by show 0 < 5; decide)
      · have hls : l.length < S.length := by omega
        rw [List.drop_eq_getElem_cons hls, Sm.tg_one hne] at hR
        obtain ⟨sv, hsv, hsd⟩ := dps_get hSD (i := l.length) (d := encRL S[l.length]) (by rw [List.getElem?_map, List.getElem?_eq_getElem hls]; rfl)
        have hsr := hSr _ (List.getElem_mem hls)
        generalize S[l.length] = s0 at hR hsd hsr
        obtain ⟨sc, su, rfl, hsc, hsu⟩ := dp_rl hsd
        walk_at "u"
        refine ⟨a, b, n, rfl, hL2, hn, hbl, fun r hr => ?_⟩
        subst hr
        walk_at "u"
        refine u_lenL (li_any hf2) ?_
        walk_at "u"
        rw [tl]
        refine u_ixL hS2 (atI_nat hsv) ?_
        walk_at "u"
        refine ⟨a, sc, b, n, l.length, su, s0, rfl, hL2, hlt, hbl, same_l s2 hsc, dps_same s2 hsu, hsr, fun z hz q v wv H3 s3 hq h0 h4 h5 => ?_, fun t ht q v H3 s3 hq hv => ?_⟩
        · rw [hz] at hR
          refine u_gt hq rfl ?_
          walk_at "u"
          refine ite_d (fun _ => ?_) (fun h => absurd (show ((z.1 : Nat) : Int) > 0 by omega) h)
          have hf3 := s3 _ _ hf2
          walk_at "u"
          refine ite_d (fun h6 => ?_) (fun h6 => ?_)
          · have h6' : z.1 = 4 := by have h7 : ((z.1 : Nat) : Int) = 4 := h6; omega
            walk_at "u"
            refine u_lenL (li_any hf3) ?_
            rw [tl, ← h4 h6']
            walk_at "u"
            refine ⟨by show 3 ≤ sizeLine; decide, fun p hp => ?_⟩
            exact kE z hR p (.ref fa) _ (same_then (s2.trans s3) hp) (SqT.of upd_same) h0
          · have h6' : z.1 ≠ 4 := by have h7 : ¬ ((z.1 : Nat) : Int) = 4 := h6; omega
            rw [h5 h6']
            walk_at "u"
            refine ⟨by show 3 ≤ sizeLine; decide, fun p hp => ?_⟩
            exact kE z hR p (.ref fa) _ (same_then (s2.trans s3) hp) (SqT.of upd_same) h0
        · rw [ht] at hR
          dsimp only at hR
          have hlN : n + Sm.lineN (b.drop n) < b.length := by
            have : Sm.signF n (b.drop n) = none := by
              unfold Sm.tgOne at ht
              cases g : Sm.signF n (b.drop n) with
              | none => rfl
              | some p => rw [g] at ht; cases ht
            have := (Sm.tg_late (f := 0) (n := 0) (s := s0) (ss := []) (l := []) hne this).1
            rw [List.length_drop] at this
            omega
          generalize Sm.lineN (b.drop n) = N at hR hlN
          refine u_gt hq rfl ?_
          walk_at "u"
          refine ite_d (fun h => absurd h (by decide)) (fun _ => ?_)
          walk_at "u"
          have hf3 := s3 _ _ hf2
          refine ⟨u_lty hf3, ?_⟩
          walk_at "u"
          refine u_append hf3 (size_less (by omega)) ?_
          walk_at "u"
          refine ⟨m, by omega, n + N + 1, t :: l, ts ++ [v], some (.int ((n + N : Nat) : Int)), some v, some (.int 0), some (.int 0), ?_, same_mut (s2.trans s3) hfa, upd_same, ?_, ?_, by omega, by omega, by rw [List.length_cons]; omega, by rw [List.length_cons]; omega⟩
          · show [_, _, _, some (V.int (((n + N : Nat) : Int) + 1)), _, _, _, _] = _
            rw [show ((n + N + 1 : Nat) : Int) = ((n + N : Nat) : Int) + 1 by omega]
            all_goals rfl
          · rw [del_upd, List.reverse_cons]
            exact (hT.imp fun _ _ => TgAt.same (same_del2 s3)).app (.one (hv.2 fa ts hf2))
          · rw [hR, List.drop_drop, List.length_cons]
            all_goals rfl
    · have hbd : b.drop n = [] := List.drop_eq_nil_of_le (by omega)
      rw [hbd, Sm.tg_nil] at hR
      walk_at "u"
      refine u_lenL (li_any hf2) ?_
      walk_at "u"
      refine u_lenL (same_l s2 hS) ?_
      walk_at "u"
      rw [tl, ql]
      refine ite_d (fun h2 => ?_) (fun h2 => ?_)
      · have hSd : S.drop l.length = [] := List.drop_eq_nil_of_le (by omega)
        rw [hSd] at hR
        have hR2 : R = .ok l.reverse := hR
        walk_at "u"
        refine ⟨by show 3 ≤ sizeLine; decide, fun q hq => ?_⟩
        have n3 := same_new (o := .tup [.ref fa, .int 0, .int 0]) hq
        exact kO _ hR2 q fa ts _ (s2.trans n3) (SqT.of upd_same) (n3 _ _ hf2) (hT.imp fun _ _ => TgAt.same (del_sub.trans n3))
      · have hR2 : R = .error (5, n) := by
          rw [hR, if_neg]
          have hls : l.length < S.length := by
            have h2' : ¬ ((l.length : Nat) : Int) = ((S.length : Nat) : Int) := h2
            omega
          rw [List.drop_eq_getElem_cons hls]
          intro z; cases z
        have hnb : n = b.length := by omega
        walk_at "u"
        refine u_lenL (same_l s2 hL) ?_
        walk_at "u"
        rw [map_int_len, bI_len, ← hnb]
        refine ⟨by show 3 ≤ sizeLine; decide, fun q hq => ?_⟩
        exact kE _ hR2 q (.ref fa) _ (same_then s2 hq) (SqT.of upd_same) (by show 0 < 5; decide)
def sp_target_row (K : PySem.W.Frag) : Sp := fun vs H Q _ => ∃ (pl sl tl : Addr) (us ws ts : List V) (row : Fh.Row) (X : List Sm.Pos) (T0 : List Fh.Target), vs = [.ref pl, .ref sl, .ref tl] ∧ SqL K H pl us ∧ DpAll K H us (row.map encP) ∧ SqL K H sl ws ∧ DpAll K H ws (X.map encE) ∧ SqL K H tl ts ∧ All2 (TgAt K H) ts T0 ∧ T0.length = X.length ∧
  Sm.Chain row 0 X ∧ row.length + Sm.tSum T0 ≤ 150000 ∧
  ∀ q ys H', Same H H' → H' q = some (.lst ys) → DpAll K H' ys ((Sm.tRow row 0 (X.map fun x => x.2) T0).map encP) → Q (.ref q) H'
theorem ok_target_row (T : Txt K mg) : FnOk P w K mg base CX0 1 T.f_target_row.a T.f_target_row.fd ["pieces", "places", "targets"] (sp_target_row K) := by
  refine T.f_target_row.F.ok sc_target_row (fun vs H Q E h => ?_) (fun cdv A outer s H vs Q E hr h => ⟨_, (pss_cons (ps_par (i := 3) (j := 4) (by rfl) sc_target_row.nd rfl rfl (by decide) rfl rfl (pa_cons (pe_lst pa_nil) (pa_cons pe_int pa_nil)) (by rfl))
 (pss_cons (ps_for PassesOwn.never rfl (piZK K rfl T.b_zip (pa_cons (pv 1) (pa_cons (pv 2) pa_nil))) (gtK K (n := 2) rfl (pgs_cons (gtK K (n := 2) rfl (pgs_cons (pg_name (i := 5) sc_target_row.nd rfl (Or.inl rfl)) (pgs_cons (pg_name (i := 6) sc_target_row.nd rfl (Or.inl rfl)) pgs_nil))) (pgs_cons (pg_name (i := 7) sc_target_row.nd rfl (Or.inl rfl)) pgs_nil))) (pss_cons (ps_expr (bmK K PySem.F.plainAttrs_list PySem.F.slot_list_extend PySem.F.type_list_extend mt_extend (pv 3) (pa_cons (pe_slice (slLK K) (pv 0) (po_some (pv 4)) (po_some (pv 5))) pa_nil)))
 (pss_cons (ps_expr (bmK K PySem.F.plainAttrs_list PySem.F.slot_list_extend PySem.F.type_list_extend mt_extend (pv 3) (pa_cons (pe_ifExp (pt_cmpR op_isN1 (pv 7) pe_non (nomark _)) (pe_slice (slLK K) (pv 0) (po_some (pv 5)) (po_some (pv 6))) (pv 7)) pa_nil)))
 (pss_one (ps_set (i := 4) sc_target_row.nd rfl (Or.inl rfl) (pv 6))))))
 (pss_cons (ps_expr (bmK K PySem.F.plainAttrs_list PySem.F.slot_list_extend PySem.F.type_list_extend mt_extend (pv 3) (pa_cons (pe_slice (slLK K) (pv 0) (po_some (pv 4)) po_none) pa_nil)))
 (pss_one (ps_ret (pv 3)))))), ?_⟩)
  · obtain ⟨_, _, _, _, _, _, _, _, _, rfl, _⟩ := h; rfl
  · obtain ⟨pl, sl, tl, us, ws, ts, row, X, T0, rfl, hL, hD, hS, hW, hTl, hT, hTX, hC, hsz, k⟩ := h
    have el : us.length = row.length := by rw [dps_len hD, List.length_map]
    have wl : ws.length = X.length := by rw [dps_len hW, List.length_map]
    have tll : ts.length = T0.length := hT.len
    have hlen := Sm.tRow_len row X 0 T0 hC
    generalize hR : Sm.tRow row 0 (X.map fun x => x.2) T0 = R at k hlen
    walk_at "u"
    refine ⟨by show 0 ≤ sizeLine; decide, fun fa hfa => ?_⟩
    have s1 := same_new (o := .lst []) hfa
    walk_at "u"
    refine f_zip (K := K) (a := sl) (b := tl) (xs := ws) (ys := ts) (fun i σ H' => ∃ (g : Nat) (v5 v6 v7 : Option V) (ys : List V) (done : Fh.Row), σ = [some (.ref pl), some (.ref sl), some (.ref tl), some (.ref fa), some (.int (g : Nat)), v5, v6, v7] ∧ Same H H' ∧ H' fa = some (.lst ys) ∧ DpAll K H' ys (done.map encP) ∧
        R = done ++ Sm.tRow row g ((X.drop i).map fun x => x.2) (T0.drop i) ∧ Sm.Chain row g (X.drop i) ∧ g ≤ row.length) (same_l s1 hS) (same_l s1 hTl) (by omega) ⟨0, none, none, none, [], [], rfl, s1, upd_same, .nil, hR.symm, hC, Nat.zero_le _⟩
        (fun i σ H' _ ⟨_, _, _, _, _, _, _, s, _⟩ => ⟨same_l s hS, same_l s hTl⟩) ?_ ?_
    · rintro i x y σ H2 t hx hy ⟨g, v5, v6, v7, ys, done, rfl, s2, hf2, hY, hRd, hCh, hg⟩ ht
      have hi : i < X.length := by have := (List.getElem?_eq_some_iff.mp hx).1; omega
      have hi2 : i < T0.length := by omega
      obtain ⟨v2, hv2, hd2⟩ := dps_get hW (i := i) (d := encE X[i]) (by rw [List.getElem?_map, List.getElem?_eq_getElem hi]; rfl)
      rw [hx] at hv2
      cases hv2
      obtain ⟨v3, hv3, ht3⟩ := hT.get (List.getElem?_eq_getElem hi2)
      rw [hy] at hv3
      cases hv3
      rw [List.drop_eq_getElem_cons hi, List.drop_eq_getElem_cons hi2] at hRd
      rw [List.drop_eq_getElem_cons hi] at hCh
      generalize X[i] = p at hd2 hRd hCh
      generalize T0[i] = tg at ht3 hRd
      have hRd : R = done ++ (Sm.sl row g p.2.1 ++ (tg.getD (Sm.sl row p.2.1 p.2.2) ++ Sm.tRow row p.2.2 ((X.drop (i + 1)).map fun x => x.2) (T0.drop (i + 1)))) := hRd
      obtain ⟨c1, c2, c3, c4, c5⟩ := hCh
      have yl : ys.length = done.length := by rw [dps_len hY, List.length_map]
      have rl := congrArg List.length hRd
      rw [List.length_append, List.length_append, List.length_append] at rl
      obtain ⟨pa, rfl, hpa⟩ := dp_pair hd2
      have n3 := same_new (o := .tup [.ref pa, y]) ht
      refine u_gt (SqT.of upd_same) rfl ?_
      have hf3 := n3 _ _ hf2
      have hY3 := dps_same n3 hY
      have s3 := s2.trans n3
      generalize upd H2 t (.tup [.ref pa, y]) = H3 at n3 hf3 hY3 s3
      walk_at "u"
      refine u_gt (same_t s3 hpa) rfl ?_
      walk_at "u"
      refine u_ext ?_
      walk_at "u"
      refine ⟨u_lty hf3, ?_⟩
      walk_at "u"
      refine u_slL (same_l s3 hL) fun q hq => ?_
      rw [sl_enc]
      have n4 := same_new (o := .lst ((us.take p.2.1).drop g)) hq
      have sl1 : ((us.take p.2.1).drop g).length = (Sm.sl row g p.2.1).length := by rw [List.length_drop, List.length_take]; unfold Sm.sl; rw [List.length_drop, List.length_take]; omega
      have e4 : upd H3 q (.lst ((us.take p.2.1).drop g)) q = some (.lst ((us.take p.2.1).drop g)) := upd_same
      generalize upd H3 q (.lst ((us.take p.2.1).drop g)) = H4 at n4 e4
      have hf4 := n4 _ _ hf3
      have s4 := s3.trans n4
      walk_at "u"
      refine u_extend hf4 e4 (size_small (by rw [sl1]; omega)) ?_
      have kt5 : Kt H4 (upd H4 fa (.lst (ys ++ (us.take p.2.1).drop g))) := Kt.upd hf4 rfl
      have s5 : Same H (upd H4 fa (.lst (ys ++ (us.take p.2.1).drop g))) := same_mut s4 hfa
      have hf5 : upd H4 fa (.lst (ys ++ (us.take p.2.1).drop g)) fa = some (.lst (ys ++ (us.take p.2.1).drop g)) := upd_same
      have hY5 := kt5.ds (tupDs_map tupD_P (done ++ Sm.sl row g p.2.1)) (by rw [List.map_append]; exact dps_app (dps_same n4 hY3) (dps_sl g p.2.1 (dps_same s4 hD)))
      generalize upd H4 fa (.lst (ys ++ (us.take p.2.1).drop g)) = H5 at kt5 s5 hf5 hY5
      walk_at "u"
      refine u_ext ?_
      walk_at "u"
      refine ⟨u_lty hf5, ?_⟩
      walk_at "u"
      have last : ∀ (H6 : Hp) (q : Addr) (zs : List V), Same H5 H6 → H6 q = some (.lst zs) → DpAll K H6 zs ((tg.getD (Sm.sl row p.2.1 p.2.2)).map encP) →
          ∃ ys' done', upd H6 fa (.lst ((ys ++ (us.take p.2.1).drop g) ++ zs)) fa = some (.lst ys') ∧ DpAll K (upd H6 fa (.lst ((ys ++ (us.take p.2.1).drop g) ++ zs))) ys' (done'.map encP) ∧ Same H (upd H6 fa (.lst ((ys ++ (us.take p.2.1).drop g) ++ zs))) ∧ R = done' ++ Sm.tRow row p.2.2 ((X.drop (i + 1)).map fun x => x.2) (T0.drop (i + 1)) ∧ (ys ++ (us.take p.2.1).drop g).length + zs.length ≤ 1000000 := by
        intro H6 q zs n6 e6 hz
        have hf6 := n6 _ _ hf5
        refine ⟨_, (done ++ Sm.sl row g p.2.1) ++ tg.getD (Sm.sl row p.2.1 p.2.2), upd_same, ?_, same_mut (s5.trans n6) hfa, ?_, ?_⟩
        · refine (Kt.upd hf6 rfl).ds (tupDs_map tupD_P _) ?_
          rw [List.map_append]
          exact dps_app (dps_same n6 hY5) hz
        · rw [hRd, List.append_assoc, List.append_assoc]
        · have zl : zs.length = (tg.getD (Sm.sl row p.2.1 p.2.2)).length := by rw [dps_len hz, List.length_map]
          rw [List.length_append, sl1, zl]
          omega
      have ht5 := ht3.same s5
      cases tg with
      | none =>
        have ey : y = .non := ht5
        subst ey
        refine ⟨rfl, ?_⟩
        walk_at "u"
        refine ite_d (fun _ => ?_) (fun h => absurd rfl h)
        walk_at "u"
        refine u_slL (same_l s5 hL) fun q2 hq2 => ?_
        rw [sl_enc]
        have n6 := same_new (o := .lst ((us.take p.2.2).drop p.2.1)) hq2
        obtain ⟨ys', done', g1, g2, g3, g4, g5⟩ := last _ q2 _ n6 upd_same (dps_sl p.2.1 p.2.2 (dps_same (s5.trans n6) hD))
        walk_at "u"
        refine u_extend (n6 _ _ hf5) upd_same (size_small g5) ?_
        walk_at "u"
        exact ⟨p.2.2, _, _, _, ys', done', rfl, g3, g1, g2, g4, c5, c4⟩
      | some r =>
        obtain ⟨rl5, ru, ey, hr1, hr2⟩ := ht5
        subst ey
        refine ⟨rfl, ?_⟩
        walk_at "u"
        refine ite_d (fun h => by cases h) (fun _ => ?_)
        obtain ⟨ys', done', g1, g2, g3, g4, g5⟩ := last _ rl5 _ (Same.refl _) hr1 hr2
        walk_at "u"
        refine u_extend hf5 hr1 (size_small g5) ?_
        walk_at "u"
        exact ⟨p.2.2, _, _, _, ys', done', rfl, g3, g1, g2, g4, c5, c4⟩
    · rintro σ H2 ⟨g, v5, v6, v7, ys, done, rfl, s2, hf2, hY, hRd, hCh, hg⟩
      rw [wl, List.drop_length] at hRd
      have hRd : R = done ++ row.drop g := hRd
      have yl : ys.length = done.length := by rw [dps_len hY, List.length_map]
      have rl := congrArg List.length hRd
      rw [List.length_append] at rl
      walk_at "u"
      refine u_ext ?_
      walk_at "u"
      refine ⟨u_lty hf2, ?_⟩
      walk_at "u"
      refine u_slL (same_l s2 hL) fun q hq => ?_
      have ecv : cutV us (some ((g : Nat) : Int)) none = us.drop g := cut_from us g
      rw [ecv]
      have n4 := same_new (o := .lst (us.drop g)) hq
      have e4 : upd H2 q (.lst (us.drop g)) q = some (.lst (us.drop g)) := upd_same
      generalize upd H2 q (.lst (us.drop g)) = H4 at n4 e4
      have hf4 := n4 _ _ hf2
      have s4 := s2.trans n4
      walk_at "u"
      refine u_extend hf4 e4 (size_small (by rw [List.length_drop] at rl ⊢; omega)) ?_
      walk_at "u"
      refine k fa _ _ (same_mut s4 hfa) upd_same ?_
      rw [hRd]
      refine (Kt.upd hf4 rfl).ds (tupDs_map tupD_P _) ?_
      rw [List.map_append, List.map_drop]
      exact dps_app (dps_same n4 hY) (dps_drop g (dps_same s4 hD))
end
end Sr
namespace Sr
open PySem PySem.Spec PyProof.Rows L2
open Fh (Bytes)
theorem size_big {n : Nat} (h : n ≤ 16000000) : n ≤ sizeLine := by rw [sizeLine_eq]; omega
theorem size_bigl {n : Nat} (h : n < 16000000) : n < sizeLine := by rw [sizeLine_eq]; omega
theorem dp_seg {K : PySem.W.Frag} {H : Hp} {v : V} {x : Sm.Seg} (h : Dp K H v (encSg x)) : ∃ (p c : Addr) (us : List V), v = .ref p ∧ SqT K H p [.int x.1, .int x.2.1, .int x.2.2.1, .ref c] ∧ SqL K H c us ∧ DpAll K H us (x.2.2.2.map encP) := by
  cases h with
  | tup h1 h2 =>
    cases h2 with
    | cons a1 h2 =>
      cases a1
      cases h2 with
      | cons a2 h2 =>
        cases a2
        cases h2 with
        | cons a3 h2 =>
          cases a3
          cases h2 with
          | cons a4 h2 =>
            cases h2
            cases a4 with
            | lst h7 h8 => exact ⟨_, _, _, rfl, h1, h7, h8⟩
section
variable {P : Program} {w : World} {K : PySem.W.Frag} {mg : Str → Option Value} {base : Heap}
def sp_target_document (K : PySem.W.Frag) : Sp := fun vs H Q _ => ∃ (la sa ta : Addr) (ws ys ts : List V) (R : Fh.Rules) (d : Fh.Document) (T0 : List Fh.Target), vs = [.ref la, .ref sa, .ref ta] ∧ SqL K H la ws ∧ All2 (LnAt K H) ws d ∧ SqL K H sa ys ∧ DpAll K H ys ((Sm.docSegs R 0 d).map encSg) ∧ SqL K H ta ts ∧ All2 (TgAt K H) ts T0 ∧
  T0.length = (Sm.docSegs R 0 d).length ∧ (∀ l ∈ d, Sm.okL l) ∧ (∀ t ∈ T0, Sm.goodT t) ∧ Sm.mD d ≤ 120000 ∧ Sm.tSum T0 ≤ 120000 ∧ (Sm.docSegs R 0 d).length ≤ 900000 ∧
  (FhSegs.fitsBounds (Fh.putFrom R d T0) = true → ∀ q H', Same H H' → H' q = some (.lst ((bI (Fh.docText (Fh.putFrom R d T0))).map V.int)) → (Fh.docText (Fh.putFrom R d T0)).length ≤ 1500000 → Q (.ref q) H') ∧
  (FhSegs.fitsBounds (Fh.putFrom R d T0) = false → ∀ H', Same H H' → Q .non H')
theorem ok_target_document (T : Txt K mg) : FnOk P w K mg base CX0 4 T.f_target_document.a T.f_target_document.fd ["lines", "parts", "targets"] (sp_target_document K) := by
  refine T.f_target_document.F.ok sc_target_document (fun vs H Q E h => ?_) (fun cdv A outer s H vs Q E hr h => ⟨_, (pss_cons (ps_par (i := 3) (j := 4) (by rfl) sc_target_document.nd rfl rfl (by decide) rfl rfl (pa_cons (pe_lst pa_nil) (pa_cons pe_int pa_nil)) (by rfl))
 (pss_cons (ps_for PassesOwn.never rfl (piEK K rfl T.b_enumerate (pa_cons (pv 0) pa_nil)) (gtK K (n := 2) rfl (pgs_cons (pg_name (i := 5) sc_target_document.nd rfl (Or.inl rfl)) (pgs_cons (gtK K (n := 2) rfl (pgs_cons (pg_name (i := 6) sc_target_document.nd rfl (Or.inl rfl)) (pgs_cons (pg_name (i := 7) sc_target_document.nd rfl (Or.inl rfl)) pgs_nil))) pgs_nil))) (pss_cons (ps_set (i := 8) sc_target_document.nd rfl (Or.inl rfl) (pv 7))
 (pss_cons (ps_if (pt_not (pt_val (pv 6))) (pss_cons (ps_set (i := 9) sc_target_document.nd rfl (Or.inl rfl) (pv 4))
 (pss_cons (ps_while PassesOwn.never (PW.pt (pw_and (pt_cmpR op_lt (pv 9) (pe_callB (cr_len K) rfl T.b_len PySem.boot_len (pa_cons (pv 1) pa_nil)) (nomark _)) (pw_and1 (pt_cmpR op_eq (pe_ix (ixTK K) (pe_ix (ixLK K) (pv 1) (pv 9) (fun _ _ => rfl)) pe_int (fun _ _ => rfl)) (pv 5) (nomark _))))) (pss_one (ps_set (i := 9) sc_target_document.nd rfl (Or.inl rfl) (pe_op op_add (pv 9) pe_int))))
 (pss_cons (ps_setLc (i := 10) (own := [("number", 13), ("begin", 14), ("end", 15), ("pieces", 16)]) rfl sc_target_document.nd rfl rfl (sw_true rfl rfl rfl (by decide +kernel)) (piLK K (pe_slice (slLK K) (pv 1) (po_some (pv 4)) (po_some (pv 9)))) (blkOk_by (own := [("number", 13), ("begin", 14), ("end", 15), ("pieces", 16)]) (N := ["lines", "parts", "targets", "found", "first", "line", "is_raw", "content", "octets", "behind", "places", "row", "text", "number", "begin", "end", "pieces"]) (sc := defScope s_target_document) (by decide +kernel)) (fun _ _ _ _ _ => (gtK K (n := 4) rfl (pgs_cons (pg_name (i := 13) sc_target_document.nd rfl (Or.inl rfl)) (pgs_cons (pg_name (i := 14) sc_target_document.nd rfl (Or.inl rfl)) (pgs_cons (pg_name (i := 15) sc_target_document.nd rfl (Or.inl rfl)) (pgs_cons (pg_name (i := 16) sc_target_document.nd rfl (Or.inl rfl)) pgs_nil)))))) (fun _ _ _ _ _ => pts_nil) (fun _ _ _ _ _ => (pe_tup (pa_cons (pv 14) (pa_cons (pv 15) pa_nil)))))
 (pss_cons (ps_set (i := 11) sc_target_document.nd rfl (Or.inl rfl) (pe_call (ok_target_row T) (hr.mono (by decide)) rfl T.f_target_row.g T.f_target_row.F.kp T.f_target_row.b .nil pass0 (pa_cons (pv 7) (pa_cons (pv 10) (pa_cons (pe_slice (slLK K) (pv 2) (po_some (pv 4)) (po_some (pv 9))) pa_nil)))))
 (pss_cons (ps_set (i := 4) sc_target_document.nd rfl (Or.inl rfl) (pv 9))
 (pss_cons (ps_set (i := 12) sc_target_document.nd rfl (Or.inl rfl) (pe_call (ok_row_octets T) (hr.mono (by decide)) rfl T.f_row_octets.g T.f_row_octets.F.kp T.f_row_octets.b .nil pass0 (pa_cons (pv 11) pa_nil)))
 (pss_cons (ps_if (PW.pt (pw_or (pt_cmpR op_gt (pe_callB (cr_len K) rfl T.b_len PySem.boot_len (pa_cons (pv 11) pa_nil)) (pe_gi T.c_MOST_PIECES) (nomark _)) (pw_or1 (pt_cmpR op_gt (pe_callB (cr_len K) rfl T.b_len PySem.boot_len (pa_cons (pv 12) pa_nil)) (pe_gi T.c_MOST_PARAGRAPH) (nomark _))))) (pss_one (ps_ret pe_non)) pss_nil)
 (pss_one (ps_set (i := 8) sc_target_document.nd rfl (Or.inl rfl) (pe_op op_cat (pe_lst (pa_cons (pe_gi T.c_PARAGRAPH) pa_nil)) (pv 12))))))))))) pss_nil)
 (pss_cons (ps_expr (bmK K PySem.F.plainAttrs_list PySem.F.slot_list_extend PySem.F.type_list_extend mt_extend (pv 3) (pa_cons (pv 8) pa_nil)))
 (pss_one (ps_expr (bmK K PySem.F.plainAttrs_list PySem.F.slot_list_append PySem.F.type_list_append mt_append (pv 3) (pa_cons (pe_gi T.c_LINE_END_documents) pa_nil))))))))
 (pss_one (ps_ret (pe_ifExp (pt_cmpR op_le (pe_callB (cr_len K) rfl T.b_len PySem.boot_len (pa_cons (pv 3) pa_nil)) (pe_gi T.c_MOST_DOCUMENT) (nomark _)) (pv 3) pe_non))))), ?_⟩)
  · obtain ⟨_, _, _, _, _, _, _, _, _, rfl, _⟩ := h; rfl
  · obtain ⟨la, sa, ta, ws, ys, ts, R, d, T0, rfl, hL, hD, hS, hSD, hTl, hT, hTX, hok, hgt, hmd, hts, hfew, kY, kN⟩ := h
    have wl : ws.length = d.length := hD.len
    have yl : ys.length = (Sm.docSegs R 0 d).length := by rw [dps_len hSD, List.length_map]
    have tl : ts.length = T0.length := hT.len
    rw [Sm.fitsB_eq] at kY kN
    generalize hY0 : Fh.putFrom R d T0 = Y at kY kN
    walk_at "u"
    refine ⟨by show 0 ≤ sizeLine; decide, fun fa hfa => ?_⟩
    have s1 := same_new (o := .lst []) hfa
    walk_at "u"
    refine f_enum (K := K) (a := la) (xs := ws) (fun i σ H' => ∃ (v5 v6 v7 v8 v9 v10 v11 v12 : Option V) (F : Bytes), σ = [some (.ref la), some (.ref sa), some (.ref ta), some (.ref fa), some (.int ((Sm.docSegs R 0 (d.take i)).length : Nat)), v5, v6, v7, v8, v9, v10, v11, v12, none, none, none, none] ∧ Same H H' ∧ H' fa = some (.lst ((bI F).map V.int)) ∧
        Fh.docText Y = F ++ Fh.docText (Fh.putFrom R (d.drop i) (T0.drop (Sm.docSegs R 0 (d.take i)).length)) ∧ Y.all Sm.okB = (Fh.putFrom R (d.drop i) (T0.drop (Sm.docSegs R 0 (d.take i)).length)).all Sm.okB ∧ F.length ≤ 6 * (Sm.mD (d.take i) + Sm.tSum (T0.take (Sm.docSegs R 0 (d.take i)).length)))
      (same_l s1 hL) ⟨none, none, none, none, none, none, none, none, [], rfl, s1, upd_same, by rw [← hY0]; rfl, by rw [← hY0]; rfl, Nat.zero_le _⟩ (fun i σ H' _ ⟨_, _, _, _, _, _, _, _, _, _, s, _⟩ => same_l s hL) ?_ ?_
    · rintro i x σ H2 t hx ⟨v5, v6, v7, v8, v9, v10, v11, v12, F, rfl, s2, hf2, hYt, hYo, hFl⟩ ht
      have hi : i < d.length := by have := (List.getElem?_eq_some_iff.mp hx).1; rw [wl] at this; exact this
      obtain ⟨v2, hv2, hd⟩ := hD.get (List.getElem?_eq_getElem hi)
      rw [hx] at hv2
      cases hv2
      have hdi : d[i]? = some d[i] := List.getElem?_eq_getElem hi
      have hoki := hok d[i] (List.getElem_mem hi)
      have hms := Sm.mD_step hi
      have hmt := Sm.mD_take d (i + 1)
      rw [List.drop_eq_getElem_cons hi] at hYt hYo
      generalize d[i] = l at hd hdi hoki hYt hYo hms
      obtain ⟨p, c, us, rfl, hp, hc, hU⟩ := hd
      have n3 := same_new (o := .tup [.int (i : Nat), .ref p]) ht
      have s3 := s2.trans n3
      have hf3 := n3 _ _ hf2
      refine u_gt (SqT.of upd_same) rfl ?_
      generalize upd H2 t (.tup [.int (i : Nat), .ref p]) = H3 at s3 hf3
      walk_at "u"
      refine u_gt (same_t s3 hp) rfl ?_
      walk_at "un"
      refine u_seq (u_asg ?_)
      refine u_var rfl (u_gn ?_)
      refine u_seq ?_
      generalize hN : (Sm.docSegs R 0 (d.take i)).length = N at *
      have hts1 := Sm.tSum_take T0 N
      refine u_cut (fun σ' H4 => ∃ (oa : Addr) (B : Bytes) (l' : Fh.Line) (v5 v6 v7 v9 v10 v11 v12 : Option V), σ' = [some (.ref la), some (.ref sa), some (.ref ta), some (.ref fa), some (.int ((Sm.docSegs R 0 (d.take (i + 1))).length : Nat)), v5, v6, v7, some (.ref oa), v9, v10, v11, v12, none, none, none, none] ∧ Same H H4 ∧
          H4 fa = some (.lst ((bI F).map V.int)) ∧ H4 oa = some (.lst ((bI B).map V.int)) ∧ l'.text = B ++ [10] ∧ Sm.okB l' = true ∧
          Fh.putFrom R (l :: d.drop (i + 1)) (T0.drop N) = l' :: Fh.putFrom R (d.drop (i + 1)) (T0.drop (Sm.docSegs R 0 (d.take (i + 1))).length) ∧
          F.length + B.length + 1 ≤ 6 * (Sm.mD (d.take (i + 1)) + Sm.tSum (T0.take (Sm.docSegs R 0 (d.take (i + 1))).length))) (fun nx' hnx => ?_) (fun σ' H4 ⟨oa, B, l', w5, w6, w7, w9, w10, w11, w12, e1, s4, hf4, ho4, ht4, hb4, hp4, hl4⟩ => ?_)
      · walk_at "u"
        cases l with
        | raw tx =>
          refine ite_nb (fun h => by cases h) (fun _ => ?_)
          walk_at "u"
          have en := Sm.docSegs_nextR (R := R) hdi
          rw [hN] at en
          have hU : us = (bI (124 :: tx.flatMap Fh.utf8)).map V.int := hU
          refine hnx _ _ ⟨c, 124 :: tx.flatMap Fh.utf8, .raw tx, _, _, _, _, _, _, _, by rw [en]; rfl, s3, hf3, by rw [← hU]; exact s3 _ _ hc, rfl, rfl, by rw [en]; rfl, ?_⟩
          rw [en, hms]
          have : Sm.mL (.raw tx) = (tx.flatMap Fh.utf8).length + 2 := rfl
          rw [List.length_cons]
          omega
        | para r =>
          have hU : DpAll K H us (r.map encP) := hU
          have hrl : r.length ≤ 4096 := hoki.1
          have en := Sm.docSegs_next (R := R) hdi
          have sn := Sm.seg_len (R := R) hdi
          have sin : ∀ j, j < (Sm.posOf R r).length → ∃ y, (Sm.docSegs R 0 d)[(Sm.docSegs R 0 (d.take i)).length + j]? = some (Sm.segP i r y) := fun j hj => ⟨_, Sm.seg_in hdi hj⟩
          have sout : ∀ z, (Sm.docSegs R 0 d)[(Sm.docSegs R 0 (d.take i)).length + (Sm.posOf R r).length]? = some z → z.1 ≠ i := fun z hz => Sm.seg_out hdi hz
          have ssl := Sm.seg_slice (R := R) hdi
          rw [hN] at en sn sin sout ssl
          have chain := (Sm.chain_row R r).1
          have plen := Sm.paraT_len R r (T0.drop N)
          have pgood := Sm.paraT_good (R := R) (r := r) (ts := T0.drop N) hoki.2.1 (fun t h => hgt t (List.mem_of_mem_drop h))
          have hpp := Sm.put_para R r (d.drop (i + 1)) (T0.drop N) (by rw [List.length_drop]; omega)
          rw [List.drop_drop] at hpp
          have tadd := Sm.tSum_add T0 N (Sm.posOf R r).length
          have tpart := Sm.tSum_part T0 N (Sm.posOf R r).length
          unfold Sm.paraT at plen pgood hpp
          generalize hPL : (Sm.posOf R r).length = L at *
          refine ite_nb (fun _ => ?_) (fun h => by cases h)
          walk_at "u"
          have hS3 := same_l s3 hS
          have hSD3 := dps_same s3 hSD
          refine f_while (fun m σ H' => ∃ (j : Nat) (v10 v11 v12 : Option V), σ = [some (.ref la), some (.ref sa), some (.ref ta), some (.ref fa), some (.int (N : Nat)), some (.int (i : Nat)), some (.bl false), some (.ref c), some (.ref c), some (.int ((N + j : Nat) : Int)), v10, v11, v12, none, none, none, none] ∧ Same H3 H' ∧ j ≤ L ∧ L - j = m) (m := L)
            ⟨0, _, _, _, rfl, Same.refl _, Nat.zero_le _, rfl⟩ ?_
          rintro m σ H4 ⟨j, v10, v11, v12, rfl, s4, hjL, hjm⟩
          refine tt_cut (decide (j < L)) (fun QT q => ?_) (fun H5 s5 => ?_)
          · walk_at "u"
            refine u_lenL (same_l s4 hS3) ?_
            walk_at "u"
            rw [yl]
            by_cases hj : j < L
            · obtain ⟨y, hz⟩ := sin j hj
              obtain ⟨v2, hv2, hd2⟩ := dps_get hSD3 (i := N + j) (by rw [List.getElem?_map, hz]; rfl)
              obtain ⟨pa, cc, uu, rfl, hpa, _, _⟩ := dp_seg hd2
              refine ite_d (fun _ => ?_) (fun h => absurd (show ((N + j : Nat) : Int) < (((Sm.docSegs R 0 d).length : Nat) : Int) by omega) h)
              walk_at "u"
              refine u_ixL (same_l s4 hS3) (atI_nat hv2) ?_
              walk_at "u"
              refine u_ixT (same_t s4 hpa) rfl ?_
              walk_at "u"
              refine q _ _ (Same.refl _) ?_
              rw [decide_eq_true hj]
              exact decide_eq_true rfl
            · have hjl : j = L := by omega
              subst hjl
              rw [decide_eq_false hj] at q
              refine ite_d (fun h => ?_) (fun _ => ?_)
              · have hlt : N + j < (Sm.docSegs R 0 d).length := by
                  have h' : ((N + j : Nat) : Int) < (((Sm.docSegs R 0 d).length : Nat) : Int) := h
                  omega
                have hne := sout _ (List.getElem?_eq_getElem hlt)
                obtain ⟨v2, hv2, hd2⟩ := dps_get hSD3 (i := N + j) (d := encSg (Sm.docSegs R 0 d)[N + j]) (by rw [List.getElem?_map, List.getElem?_eq_getElem hlt]; rfl)
                generalize (Sm.docSegs R 0 d)[N + j] = z at hd2 hne
                obtain ⟨pa, cc, uu, rfl, hpa, _, _⟩ := dp_seg hd2
                walk_at "u"
                refine u_ixL (same_l s4 hS3) (atI_nat hv2) ?_
                walk_at "u"
                refine u_ixT (same_t s4 hpa) rfl ?_
                walk_at "u"
                refine q _ _ (Same.refl _) (decide_eq_false ?_)
                intro h'
                have h'' : ((z.1 : Nat) : Int) = ((i : Nat) : Int) := h'
                omega
              · exact q _ _ (Same.refl _) rfl
          · have s35 := s4.trans s5
            refine ite_d (fun hj => ?_) (fun hj => ?_)
            · refine u_body ?_
              walk_at "u"
              refine ⟨L - (j + 1), by omega, j + 1, v10, v11, v12, ?_, s35, by omega, rfl⟩
              show [_, _, _, _, _, _, _, _, _, some (V.int (((N + j : Nat) : Int) + 1)), _, _, _, _, _, _, _] = _
              rw [show ((N + (j + 1) : Nat) : Int) = ((N + j : Nat) : Int) + 1 by omega]
              all_goals rfl
            · have hjl : j = L := by omega
              subst hjl
              walk_at "u"
              refine u_slL (same_l s35 hS3) fun q hq => ?_
              rw [sl_enc]
              have n6 := same_new (o := .lst ((ys.take (N + j)).drop N)) hq
              have e6 : upd H5 q (.lst ((ys.take (N + j)).drop N)) q = some (.lst ((ys.take (N + j)).drop N)) := upd_same
              have s6 := s3.trans (s35.trans n6)
              have hf6 := (s35.trans n6) _ _ hf3
              generalize upd H5 q (.lst ((ys.take (N + j)).drop N)) = H6 at e6 s6 hf6
              have hZ6 : DpAll K H6 ((ys.take (N + j)).drop N) (((Sm.posOf R r).map (Sm.segP i r)).map encSg) := by
                rw [← ssl, List.map_drop, List.map_take]
                exact dps_drop N (dps_take (N + j) (dps_same s6 hSD))
              have zl := dps_len hZ6
              rw [List.length_map, List.length_map, hPL] at zl
              generalize (ys.take (N + j)).drop N = zs at e6 hZ6 zl
              walk_at "u"
              refine c_list (K := K) (a := q) (xs := zs) (fun D k H' => Same H6 H' ∧ ∃ ps, H' D = some (.lst ps) ∧ DpAll K H' ps (((Sm.posOf R r).take k).map encE)) (li_any e6) (fun D hDn => ⟨same_new hDn, [], upd_same, .nil⟩) (fun D k H' hDn _ ⟨s, _⟩ => same_l s (li_any e6)) ?_ ?_
              · rintro D k2 x H7 hDn hx ⟨s7, ps, hD7, hP7⟩
                have hk : k2 < (Sm.posOf R r).length := by have := (List.getElem?_eq_some_iff.mp hx).1; omega
                obtain ⟨v2, hv2, hd2⟩ := dps_get hZ6 (i := k2) (d := encSg (Sm.segP i r (Sm.posOf R r)[k2])) (by rw [List.getElem?_map, List.getElem?_map, List.getElem?_eq_getElem hk]; rfl)
                rw [hx] at hv2
                cases hv2
                have ep : (Sm.posOf R r).take (k2 + 1) = (Sm.posOf R r).take k2 ++ [(Sm.posOf R r)[k2]] := by rw [List.take_add_one, List.getElem?_eq_getElem hk]; rfl
                have pl7 : ps.length ≤ k2 := by
                  rw [dps_len hP7, List.length_map, List.length_take]; omega
                generalize (Sm.posOf R r)[k2] = y at hd2 ep
                obtain ⟨pa, cc, uu, rfl, hpa, _, _⟩ := dp_seg (dp_same s7 hd2)
                refine u_gt hpa rfl ?_
                walk_at "u"
                refine ⟨rfl, ?_⟩
                walk_at "u"
                refine ⟨by show 2 ≤ sizeLine; decide, fun b hb => ?_⟩
                have n8 := same_new (o := .tup [.int y.2.1, .int y.2.2]) hb
                have e8 : upd H7 b (.tup [.int y.2.1, .int y.2.2]) b = some (.tup [.int y.2.1, .int y.2.2]) := upd_same
                refine ⟨ps, n8 _ _ hD7, size_less (by omega), ?_⟩
                have hD8 := n8 _ _ hD7
                have kt : Kt (upd H7 b (.tup [.int y.2.1, .int y.2.2])) (upd (upd H7 b (.tup [.int y.2.1, .int y.2.2])) D (.lst (ps ++ [.ref b]))) := Kt.upd hD8 rfl
                refine ⟨same_mut (s7.trans n8) hDn, ps ++ [.ref b], upd_same, ?_⟩
                rw [ep, List.map_append]
                exact dps_app (kt.ds (tupDs_map tupD_E _) (dps_same n8 hP7)) (dps_one (kt.d rfl (dp_mk2 (SqT.of e8))))
              · rintro D H7 hDn ⟨s7, ps, hD7, hP7⟩
                rw [zl, ← hPL, List.take_length] at hP7
                have s67 := s6.trans s7
                have hf7 := s7 _ _ hf6
                walk_at "u"
                refine u_slL (same_l s67 hTl) fun q2 hq2 => ?_
                rw [sl_enc]
                have n8 := same_new (o := .lst ((ts.take (N + j)).drop N)) hq2
                have e8 : upd H7 q2 (.lst ((ts.take (N + j)).drop N)) q2 = some (.lst ((ts.take (N + j)).drop N)) := upd_same
                have s8 := s67.trans n8
                have hf8 := n8 _ _ hf7
                have hD8 := n8 _ _ hD7
                have hP8 := dps_same n8 hP7
                generalize upd H7 q2 (.lst ((ts.take (N + j)).drop N)) = H8 at e8 s8 hf8 hD8 hP8
                have hT8 : All2 (TgAt K H8) ((ts.take (N + j)).drop N) ((T0.drop N).take j) := by
                  have := ((hT.imp fun _ _ => TgAt.same s8).take (N + j)).drop N
                  rw [List.drop_take, List.drop_take, Nat.add_sub_cancel_left] at this
                  rw [List.drop_take, Nat.add_sub_cancel_left]
                  exact this
                walk_at "u"
                refine ⟨c, D, q2, us, ps, _, r, Sm.posOf R r, (T0.drop N).take j, rfl, li_any (s8 _ _ hc), dps_same s8 hU, li_any hD8, hP8, li_any e8, hT8, by rw [List.length_take, List.length_drop, hPL]; omega, chain, by omega, fun q3 ys3 H9 s9 hq3 hY3 => ?_⟩
                generalize hrow : Sm.tRow r 0 ((Sm.posOf R r).map fun x => x.2) ((T0.drop N).take j) = row at hY3 plen pgood hpp
                have s19 := s8.trans s9
                have hf9 := s9 _ _ hf8
                have y3l : ys3.length = row.length := by rw [dps_len hY3, List.length_map]
                walk_at "u"
                refine ⟨q3, ys3, row, rfl, li_any hq3, hY3, pgood, by omega, fun q4 H10 s10 hq4 => ?_⟩
                have rtl := rowText_len pgood
                have s20 := s19.trans s10
                walk_at "u"
                refine u_lenL (li_any (s10 _ _ hq3)) ?_
                walk_at "u"
                rw [y3l]
                have bad : Sm.okB (.para row) = false → ∀ (σ : L2.St) (H11 : Hp), Same H H11 → tRet (tC .non) { nx := nx', rt := Q } σ H11 := by
                  intro hb σ H11 s11
                  walk_at "u"
                  refine kN ?_ _ s11
                  rw [hYo, hpp, List.all_cons, hb]
                  rfl
                refine ite_d (fun h1 => ?_) (fun h1 => ?_)
                · refine bad ?_ _ _ s20
                  show (decide (row.length ≤ 4096) && _) = false
                  have h1' : ((row.length : Nat) : Int) > 4096 := h1
                  rw [decide_eq_false (by omega)]; rfl
                · have h1' : ¬ ((row.length : Nat) : Int) > 4096 := h1
                  walk_at "u"
                  refine u_lenL (li_any hq4) ?_
                  walk_at "u"
                  rw [map_int_len, bI_len]
                  refine ite_d (fun h2 => ?_) (fun h2 => ?_)
                  · refine bad ?_ _ _ s20
                    show (_ && decide ((Fh.rowText row).length ≤ 65536)) = false
                    have h2' : (((Fh.rowText row).length : Nat) : Int) > 65536 := h2
                    rw [decide_eq_false (show ¬ (Fh.rowText row).length ≤ 65536 by omega), Bool.and_false]
                  · have h2' : ¬ (((Fh.rowText row).length : Nat) : Int) > 65536 := h2
                    walk_at "u"
                    refine ⟨by show 1 ≤ sizeLine; decide, fun p1 h3 => ?_⟩
                    have n11 := same_new (o := .lst [.int 62]) h3
                    walk_at "u"
                    refine ⟨p1, q4, _, _, rfl, rfl, upd_same, n11 _ _ hq4, size_small (by rw [List.length_map, bI_len, List.length_singleton]; omega), fun p2 h4 => ?_⟩
                    have n12 := same_then (o := .lst ([.int 62] ++ (bI (Fh.rowText row)).map V.int)) n11 h4
                    walk_at "u"
                    refine hnx _ _ ⟨p2, 62 :: Fh.rowText row, .para row, _, _, _, _, _, _, _, by rw [en]; rfl, s20.trans n12, n12 _ _ (s10 _ _ hf9), upd_same, rfl, ?_, by rw [en]; exact hpp, ?_⟩
                    · show (decide (row.length ≤ 4096) && decide ((Fh.rowText row).length ≤ 65536)) = true
                      rw [decide_eq_true (by omega), decide_eq_true (by omega)]; rfl
                    · rw [en, hms, tadd]
                      have : Sm.mL (.para r) = r.length + 2 := rfl
                      rw [List.length_cons]
                      omega
      · subst e1
        rw [hp4, Sm.doc_cons] at hYt
        rw [hp4, List.all_cons, hb4, Bool.true_and] at hYo
        have hts2 := Sm.tSum_take T0 (Sm.docSegs R 0 (d.take (i + 1))).length
        walk_at "u"
        refine u_ext ?_
        walk_at "u"
        refine ⟨u_lty hf4, ?_⟩
        walk_at "u"
        refine u_extend hf4 ho4 (size_big (by rw [List.length_map, List.length_map, bI_len, bI_len]; omega)) ?_
        rw [← bI_map_app]
        have s5 := same_mut (o := .lst ((bI (F ++ B)).map V.int)) s4 hfa
        have hf5 : upd H4 fa (.lst ((bI (F ++ B)).map V.int)) fa = some (.lst ((bI (F ++ B)).map V.int)) := upd_same
        generalize upd H4 fa (.lst ((bI (F ++ B)).map V.int)) = H5 at s5 hf5
        walk_at "u"
        refine ⟨u_lty hf5, ?_⟩
        walk_at "u"
        refine u_append hf5 (size_bigl (by rw [List.length_map, bI_len, List.length_append]; omega)) ?_
        walk_at "u"
        refine ⟨_, _, _, _, _, _, _, _, F ++ (B ++ [10]), rfl, same_mut s5 hfa, ?_, ?_, hYo, ?_⟩
        · rw [← List.append_assoc, bI_map_app (F ++ B)]
          exact upd_same
        · rw [hYt, ht4]
          simp only [List.append_assoc]
        · rw [List.length_append, List.length_append, List.length_singleton]; omega
    · rintro σ H2 ⟨v5, v6, v7, v8, v9, v10, v11, v12, F, rfl, s2, hf2, hYt, hYo, hFl⟩
      rw [wl, List.drop_length, Sm.put_nil] at hYt hYo
      have hYt2 : Fh.docText Y = F := by rw [hYt]; exact List.append_nil _
      have hYo2 : Y.all Sm.okB = true := hYo
      rw [hYo2, Bool.true_and, hYt2] at kY kN
      rw [wl, List.take_length] at hFl
      have hts1 := Sm.tSum_take T0 (Sm.docSegs R 0 d).length
      walk_at "u"
      refine u_lenL (li_any hf2) ?_
      walk_at "u"
      rw [map_int_len, bI_len]
      refine ite_d (fun h => ?_) (fun h => ?_)
      · have h' : ((F.length : Nat) : Int) ≤ 262144 := h
        walk_at "u"
        exact kY (decide_eq_true (by show F.length ≤ 262144; omega)) fa _ s2 hf2 (by omega)
      · have h' : ¬ ((F.length : Nat) : Int) ≤ 262144 := h
        walk_at "u"
        exact kN (decide_eq_false (by show ¬ F.length ≤ 262144; omega)) _ s2
end
end Sr
namespace Sr
open PySem PySem.Spec PyProof.Rows L2
open Fh (Bytes)
def told (b : Bytes) : List Int := (b.length : Int) :: bI b
theorem told_len (b : Bytes) : (told b).length = b.length + 1 := by unfold told; rw [List.length_cons, bI_len]
def putAns (t d x : Bytes) : List Int := if Fh.RULETEXT < t.length ∨ Fh.DOCTEXT < d.length ∨ FhSegs.TARGETS < x.length then [-6] else match Sm.wholeM t with
  | .error k => [-5, 6, (k : Nat)]
  | .ok R => if Sm.beyondM R = true then [-6] else match Fh.docRead d with
    | .error e => [-5, 7, (e.2 : Nat)]
    | .ok y => match FhSegs.targetsFrom (x.length + 1) 0 0 ((Sm.docSegs R 0 y).map fun z => z.2.2.2) [] x with
      | .error e => [-5, (e.1 : Nat), (e.2 : Nat)]
      | .ok l => if FhSegs.fitsBounds (Fh.putFrom R y l) = true then 0 :: told (Fh.docText (Fh.putFrom R y l)) else [-6]
theorem putAns_eq (t d x : List Int) : PyYqfhba.put t d x = putAns (FbNeutral.bytesOf t) (FbNeutral.bytesOf d) (FbNeutral.bytesOf x) := by
  show FbNeutral.numbers (FhSegs.answer (.put (FbNeutral.bytesOf t) (FbNeutral.bytesOf d) (FbNeutral.bytesOf x))) = _
  generalize FbNeutral.bytesOf t = t
  generalize FbNeutral.bytesOf d = d
  generalize FbNeutral.bytesOf x = x
  unfold FhSegs.answer putAns
  dsimp only
  by_cases c : Fh.RULETEXT < t.length ∨ Fh.DOCTEXT < d.length ∨ FhSegs.TARGETS < x.length
  · rw [if_pos c, if_pos c]; rfl
  · rw [if_neg c, if_neg c, ← Sm.wholeM_eq]
    cases Sm.wholeM t with
    | error k => rfl
    | ok R =>
      dsimp only
      rw [Sm.small_eq]
      cases Sm.beyondM R with
      | true => rfl
      | false =>
        rw [if_neg (by decide), if_neg (by decide)]
        cases Fh.docRead d with
        | error e => rfl
        | ok y =>
          dsimp only
          unfold Fh.segments
          rw [Sm.segs_rows]
          cases FhSegs.targetsFrom (x.length + 1) 0 0 ((Sm.docSegs R 0 y).map fun z => z.2.2.2) [] x with
          | error e => rfl
          | ok l =>
            dsimp only
            by_cases c2 : FhSegs.fitsBounds (Fh.putFrom R y l) = true
            · rw [if_pos c2, if_pos c2]; rfl
            · rw [if_neg c2, if_neg c2]; rfl
section
variable {P : Program} {w : World} {K : PySem.W.Frag} {mg : Str → Option Value} {base : Heap}
def sp_put (K : PySem.W.Frag) : Sp := fun vs H Q _ => ∃ (a g e : Addr) (t d x : Bytes), vs = [.ref a, .ref g, .ref e] ∧ LI K H a (bI t) ∧ LI K H g (bI d) ∧ LI K H e (bI x) ∧ t.length ≤ 900000 ∧ d.length ≤ 120000 ∧ x.length ≤ 120000 ∧
  ∀ p H', Same H H' → H' p = some (.lst ((putAns t d x).map V.int)) → Q (.ref p) H'
theorem ok_put (T : Txt K mg) : FnOk P w K mg base CX0 10 T.f_put.a T.f_put.fd ["t", "d", "x"] (sp_put K) := by
  refine T.f_put.F.ok sc_put (fun vs H Q E h => ?_) (fun cdv A outer s H vs Q E hr h => ⟨_, (pss_cons (ps_if (PW.pt (pw_or (pt_cmpR op_gt (pe_callB (cr_len K) rfl T.b_len PySem.boot_len (pa_cons (pv 0) pa_nil)) (pe_gi T.c_MOST_RULES_TEXT) (nomark _)) (pw_or (pt_cmpR op_gt (pe_callB (cr_len K) rfl T.b_len PySem.boot_len (pa_cons (pv 1) pa_nil)) (pe_gi T.c_MOST_DOCUMENT) (nomark _)) (pw_or1 (pt_cmpR op_gt (pe_callB (cr_len K) rfl T.b_len PySem.boot_len (pa_cons (pv 2) pa_nil)) (pe_gi T.c_MOST_DOCUMENT) (nomark _)))))) (pss_one (ps_ret (pe_lst (pa_cons (pe_gi T.c_TOO_GREAT) pa_nil)))) pss_nil)
 (pss_cons (ps_asg (pe_call (ok_read_rules T) (hr.mono (by decide)) rfl T.f_read_rules.g T.f_read_rules.F.kp T.f_read_rules.b .nil pass0 (pa_cons (pv 0) pa_nil)) (gtK K (n := 2) rfl (pgs_cons (pg_name (i := 3) sc_put.nd rfl (Or.inl rfl)) (pgs_cons (pg_name (i := 4) sc_put.nd rfl (Or.inl rfl)) pgs_nil))))
 (pss_cons (ps_if (pt_cmpR op_ge (pv 4) pe_int (nomark _)) (pss_one (ps_ret (pe_lst (pa_cons (pe_gi T.c_WRONG) (pa_cons pe_int (pa_cons (pv 4) pa_nil)))))) pss_nil)
 (pss_cons (ps_if (pt_val (pe_call (ok_is_beyond T) (hr.mono (by decide)) rfl T.f_is_beyond.g T.f_is_beyond.F.kp T.f_is_beyond.b .nil pass0 (pa_cons (pv 3) pa_nil))) (pss_one (ps_ret (pe_lst (pa_cons (pe_gi T.c_TOO_GREAT) pa_nil)))) pss_nil)
 (pss_cons (ps_asg (pe_call (ok_read_document T) (hr.mono (by decide)) rfl T.f_read_document.g T.f_read_document.F.kp T.f_read_document.b .nil pass0 (pa_cons (pv 1) pa_nil)) (gtK K (n := 2) rfl (pgs_cons (pg_name (i := 5) sc_put.nd rfl (Or.inl rfl)) (pgs_cons (pg_name (i := 4) sc_put.nd rfl (Or.inl rfl)) pgs_nil))))
 (pss_cons (ps_if (pt_cmpR op_ge (pv 4) pe_int (nomark _)) (pss_one (ps_ret (pe_lst (pa_cons (pe_gi T.c_WRONG) (pa_cons pe_int (pa_cons (pv 4) pa_nil)))))) pss_nil)
 (pss_cons (ps_set (i := 6) sc_put.nd rfl (Or.inl rfl) (pe_call (ok_document_segments T) (hr.mono (by decide)) rfl T.f_document_segments.g T.f_document_segments.F.kp T.f_document_segments.b .nil pass0 (pa_cons (pv 5) (pa_cons (pv 3) pa_nil))))
 (pss_cons (ps_asg (pe_call (ok_read_targets T) (hr.mono (by decide)) rfl T.f_read_targets.g T.f_read_targets.F.kp T.f_read_targets.b .nil pass0 (pa_cons (pv 2) (pa_cons (pe_lc (own := [("part", 11)]) rfl sc_put.nd (piLK K (pv 6)) (blkOk_by (own := [("part", 11)]) (N := ["t", "d", "x", "ruling", "fault", "lines", "parts", "targets", "kind", "place", "octets", "part"]) (sc := defScope s_put) (by decide +kernel)) (fun _ _ _ _ _ => (pg_name (i := 11) sc_put.nd rfl (Or.inl rfl))) (fun _ _ _ _ _ => pts_nil) (fun _ _ _ _ _ => (pe_ix (ixTK K) (pv 11) pe_int (fun _ _ => rfl)))) pa_nil))) (gtK K (n := 3) rfl (pgs_cons (pg_name (i := 7) sc_put.nd rfl (Or.inl rfl)) (pgs_cons (pg_name (i := 8) sc_put.nd rfl (Or.inl rfl)) (pgs_cons (pg_name (i := 9) sc_put.nd rfl (Or.inl rfl)) pgs_nil)))))
 (pss_cons (ps_if (pt_cmpR op_gt (pv 8) pe_int (nomark _)) (pss_one (ps_ret (pe_lst (pa_cons (pe_gi T.c_WRONG) (pa_cons (pv 8) (pa_cons (pv 9) pa_nil)))))) pss_nil)
 (pss_cons (ps_set (i := 10) sc_put.nd rfl (Or.inl rfl) (pe_call (ok_target_document T) (hr.mono (by decide)) rfl T.f_target_document.g T.f_target_document.F.kp T.f_target_document.b .nil pass0 (pa_cons (pv 5) (pa_cons (pv 6) (pa_cons (pv 7) pa_nil)))))
 (pss_one (ps_ret (pe_ifExp (pt_cmpR op_isN1 (pv 10) pe_non (nomark _)) (pe_lst (pa_cons (pe_gi T.c_TOO_GREAT) pa_nil)) (pe_op op_cat (pe_lst (pa_cons pe_int (pa_cons (pe_callB (cr_len K) rfl T.b_len PySem.boot_len (pa_cons (pv 10) pa_nil)) pa_nil))) (pv 10))))))))))))))), ?_⟩)
  · obtain ⟨_, _, _, _, _, _, rfl, _⟩ := h; rfl
  · obtain ⟨a, g, e, t, d, x, rfl, hL, hLd, hLx, htl, hdl, hxl, k⟩ := h
    unfold putAns at k
    refine u_seq (u_if ?_)
    refine tt_cut (decide (Fh.RULETEXT < t.length ∨ Fh.DOCTEXT < d.length ∨ FhSegs.TARGETS < x.length)) (fun QT q => ?_) (fun H1 s1 => ?_)
    · walk_at "u"
      refine u_lenL hL ?_
      walk_at "u"
      rw [map_int_len, bI_len]
      refine ite_d (fun h1 => ?_) (fun h1 => ?_)
      · exact q _ _ (Same.refl _) (decide_eq_true (Or.inl (show 65536 < t.length by omega))).symm
      · walk_at "u"
        refine u_lenL hLd ?_
        walk_at "u"
        rw [map_int_len, bI_len]
        refine ite_d (fun h2 => ?_) (fun h2 => ?_)
        · exact q _ _ (Same.refl _) (decide_eq_true (Or.inr (Or.inl (show 262144 < d.length by omega)))).symm
        · walk_at "u"
          refine u_lenL hLx ?_
          walk_at "u"
          rw [map_int_len, bI_len]
          refine q _ _ (Same.refl _) (decide_eq_decide.mpr ?_)
          show (262144 : Int) < (x.length : Int) ↔ 65536 < t.length ∨ 262144 < d.length ∨ 262144 < x.length
          omega
    · refine ite_d (fun hc => ?_) (fun hc => ?_)
      · rw [if_pos hc] at k
        walk_at "u"
        refine ⟨by show 1 ≤ sizeLine; decide, fun q hq => ?_⟩
        exact k q _ (s1.trans (same_new hq)) upd_same
      · rw [if_neg hc] at k
        walk_at "u"
        refine ⟨a, t, rfl, same_l s1 hL, htl, fun j hj p H2 s2 hp => ?_, fun R hR p v H2 s2 hp hRu => ?_⟩
        · rw [hj] at k
          refine u_gt hp rfl ?_
          walk_at "u"
          refine ite_d (fun _ => ?_) (fun h => absurd (show ((j : Nat) : Int) ≥ 0 by omega) h)
          walk_at "u"
          refine ⟨by show 3 ≤ sizeLine; decide, fun q hq => ?_⟩
          exact k q _ ((s1.trans s2).trans (same_new hq)) upd_same
        · rw [hR] at k
          dsimp only at k
          refine u_gt hp rfl ?_
          walk_at "u"
          refine ite_d (fun h => absurd h (by decide)) (fun _ => ?_)
          walk_at "u"
          refine ⟨v, R, rfl, hRu, fun r hr H3 s3 => ?_⟩
          have s13 := (s1.trans s2).trans s3
          walk_at "u"
          refine ite_b (fun h2 => ?_) (fun h2 => ?_)
          · rw [if_pos (hr.symm.trans h2)] at k
            walk_at "u"
            refine ⟨by show 1 ≤ sizeLine; decide, fun q hq => ?_⟩
            exact k q _ (s13.trans (same_new hq)) upd_same
          · have hb := hr.symm.trans h2
            rw [if_neg (by rw [hb]; decide)] at k
            have hG := good_of hR hb
            have hRu3 := hRu.same s3
            walk_at "u"
            refine ⟨g, d, rfl, same_l s13 hLd, by omega, fun j hj p2 v2 H4 s4 hp2 => ?_, fun y hy p2 la ws H4 s4 hp2 hla hW hyl => ?_⟩
            · have hdr : ∃ z, Fh.docRead d = .error z ∧ z.2 = j := by
                cases hz : Fh.docRead d with
                | error z => rw [hz] at hj; cases hj; exact ⟨z, rfl, rfl⟩
                | ok y => rw [hz] at hj; cases hj
              obtain ⟨z, hz, rfl⟩ := hdr
              rw [hz] at k
              refine u_gt hp2 rfl ?_
              walk_at "u"
              refine ite_d (fun _ => ?_) (fun h => absurd (show ((z.2 : Nat) : Int) ≥ 0 by omega) h)
              walk_at "u"
              refine ⟨by show 3 ≤ sizeLine; decide, fun q hq => ?_⟩
              exact k q _ ((s13.trans s4).trans (same_new hq)) upd_same
            · rw [hy] at k
              dsimp only at k
              have hok := Sm.doc_ok hy
              have hmd := Sm.doc_mL hy
              have hsz : Sm.sizeD y ≤ 900000 := by have := hok.2; omega
              have s14 := s13.trans s4
              refine u_gt hp2 rfl ?_
              walk_at "u"
              refine ite_d (fun h => absurd h (show ¬ (-1 : Int) ≥ 0 by decide)) (fun _ => ?_)
              walk_at "u"
              refine ⟨la, ws, y, v, R, rfl, hla, hW, hyl, hok.1, hsz, hRu3.same s4, hG, fun sa ys H5 s5 hsa hY => ?_⟩
              have s15 := s14.trans s5
              have few := Sm.docSegs_few R y 0
              have oks := Sm.docSegs_ok R y 0 hok.1
              have yl : ys.length = (Sm.docSegs R 0 y).length := by rw [dps_len hY, List.length_map]
              walk_at "u"
              refine c_list (K := K) (a := sa) (xs := ys) (fun D j H' => Same H5 H' ∧ ∃ qs, H' D = some (.lst qs) ∧ DpAll K H5 qs ((((Sm.docSegs R 0 y).take j).map fun z => z.2.2.2).map encRL)) (li_any hsa) (fun D hDn => ⟨same_new hDn, [], upd_same, .nil⟩) (fun D j H' hDn _ ⟨s, _⟩ => same_l s (li_any hsa)) ?_ ?_
              · rintro D j u H6 hDn hu ⟨s6, qs, hD6, hQ⟩
                have hj : j < (Sm.docSegs R 0 y).length := by have := (List.getElem?_eq_some_iff.mp hu).1; omega
                obtain ⟨v2, hv2, hd2⟩ := dps_get hY (i := j) (d := encSg (Sm.docSegs R 0 y)[j]) (by rw [List.getElem?_map, List.getElem?_eq_getElem hj]; rfl)
                rw [hu] at hv2
                cases hv2
                have ep : (Sm.docSegs R 0 y).take (j + 1) = (Sm.docSegs R 0 y).take j ++ [(Sm.docSegs R 0 y)[j]] := by rw [List.take_add_one, List.getElem?_eq_getElem hj]; rfl
                have qll : qs.length ≤ j := by
                  rw [dps_len hQ, List.length_map, List.length_map, List.length_take]; omega
                generalize (Sm.docSegs R 0 y)[j] = z at hd2 ep
                obtain ⟨pa, cc, uu, rfl, hpa, hcc, huu⟩ := dp_seg hd2
                walk_at "u"
                refine ⟨rfl, ?_⟩
                walk_at "u"
                refine u_ixT (same_t s6 hpa) rfl ?_
                refine ⟨qs, hD6, size_less (by omega), same_mut s6 hDn, qs ++ [.ref cc], upd_same, ?_⟩
                rw [ep, List.map_append, List.map_append]
                exact dps_app hQ (dps_one (.lst hcc huu))
              · rintro D H6 hDn ⟨s6, qs, hD6, hQ⟩
                rw [yl, List.take_length] at hQ
                have s16 := s15.trans s6
                generalize hrows : ((Sm.docSegs R 0 y).map fun z => z.2.2.2) = rows at hQ k
                have rl : rows.length = (Sm.docSegs R 0 y).length := by rw [← hrows, List.length_map]
                have rr : ∀ r ∈ rows, r.length ≤ 900000 := fun r hr => by
                  rw [← hrows] at hr
                  obtain ⟨z, hz, rfl⟩ := List.mem_map.mp hr
                  have := (oks z hz).2
                  omega
                walk_at "u"
                refine ⟨e, D, x, qs, rows, rfl, same_l s16 hLx, by omega, li_any hD6, dps_same s6 hQ, by omega, rr, fun z hz q v5 H7 s7 hq h0 => ?_, fun l hl q fa ts H7 s7 hq hfa hT => ?_⟩
                · rw [hz] at k
                  refine u_gt hq rfl ?_
                  walk_at "u"
                  refine ite_d (fun _ => ?_) (fun h => absurd (show ((z.1 : Nat) : Int) > 0 by omega) h)
                  walk_at "u"
                  refine ⟨by show 3 ≤ sizeLine; decide, fun q2 hq2 => ?_⟩
                  exact k q2 _ ((s16.trans s7).trans (same_new hq2)) upd_same
                · rw [hl] at k
                  dsimp only at k
                  have tok := Sm.targets_ok _ _ _ _ _ _ _ hl (fun t ht => nomatch ht)
                  have ts0 : Sm.tSum ([] : List Fh.Target) = 0 := rfl
                  have tlen := tok.2.2
                  rw [List.length_nil] at tlen
                  have s57 := s6.trans s7
                  refine u_gt hq rfl ?_
                  walk_at "u"
                  refine ite_d (fun h => absurd h (by decide)) (fun _ => ?_)
                  walk_at "u"
                  refine ⟨la, sa, fa, ws, ys, ts, R, y, l, rfl, same_l (s5.trans s57) hla, hW.imp fun _ _ => LnAt.same (s5.trans s57), li_any (s57 _ _ hsa), dps_same s57 hY, li_any hfa, hT, by omega, hok.1, tok.1, by omega, by have := tok.2.1; omega, by omega, fun hf q3 H8 s8 hq3 hlen => ?_, fun hf H8 s8 => ?_⟩
                  · rw [if_pos hf] at k
                    walk_at "u"
                    refine ⟨rfl, ?_⟩
                    walk_at "u"
                    refine ite_d (fun h => by cases h) (fun _ => ?_)
                    walk_at "u"
                    refine u_lenL (li_any hq3) ?_
                    walk_at "u"
                    refine ⟨by show 2 ≤ sizeLine; decide, fun p1 h1 => ?_⟩
                    have n9 := same_new (o := .lst [.int 0, .int ((List.map V.int (bI (Fh.docText (Fh.putFrom R y l)))).length : Nat)]) h1
                    walk_at "u"
                    refine ⟨p1, q3, _, _, rfl, rfl, upd_same, n9 _ _ hq3, size_big (by rw [List.length_map, bI_len]; show 2 + _ ≤ 16000000; omega), fun p2 h2 => ?_⟩
                    refine k p2 _ (((s16.trans s7).trans s8).trans (same_then n9 h2)) ?_
                    rw [List.length_map, bI_len]
                    exact upd_same
                  · rw [if_neg (by rw [hf]; decide)] at k
                    walk_at "u"
                    refine ⟨rfl, ?_⟩
                    walk_at "u"
                    refine ite_d (fun _ => ?_) (fun h => absurd rfl h)
                    walk_at "u"
                    refine ⟨by show 1 ≤ sizeLine; decide, fun p1 h1 => ?_⟩
                    exact k p1 _ (((s16.trans s7).trans s8).trans (same_new h1)) upd_same
end
end Sr
namespace Sr
open PySem PySem.Spec PyProof.Rows L2
def Fn.of {K : PySem.W.Frag} {mg : Str → Option Value} {h : Heap} {x : Str} {st : Stmt} {ps : List Str} {a : Addr} {oc : Value} {od an : Option Addr} {osl : Array (Option Value)} {kV doc pm cdv ct : Value} (X : K.In h) (G : h.Ns mainGlobals mg)
    (e : PySem.W.nsIn K mainGlobals x = some (some (.ref a))) (l : K.lookup a = some ⟨oc, od, .func (PySem.W.fnOf x x (defArgs st) (defBody st) (defScope st) .none kV doc pm an cdv ct), osl⟩) (c : PySem.W.codeIn K cdv x = true) (k : PySem.W.keepIn K (.ref a) = true)
    (hb : ∀ (kV doc pm : Value) (an : Option Addr) (cdv ct : Value) (us : List Value), us.length = ps.length → bindArgs (PySem.W.fnOf x x (defArgs st) (defBody st) (defScope st) .none kV doc pm an cdv ct) ⟨us, []⟩ = pure (ps.zip us)) : Fn K mg x st ps :=
  ⟨a, _, fun_mk l c k, (fun_mk l c k).binds hb, PySem.W.mg_of X G e⟩
def Mt.of {K : PySem.W.Frag} {C : Addr} {x q : Str} {st : Stmt} {ps : List Str} {a : Addr} {oc : Value} {od an : Option Addr} {osl : Array (Option Value)} {kV doc pm cdv ct : Value}
    (e : PySem.W.findIn K (.ref C) x = some (some (.ref a))) (i : PySem.W.isFn K (.ref a) = true) (l : K.lookup a = some ⟨oc, od, .func (PySem.W.fnOf x q (defArgs st) (defBody st) (defScope st) .none kV doc pm an cdv ct), osl⟩) (c : PySem.W.codeIn K cdv q = true) (k : PySem.W.keepIn K (.ref a) = true)
    (hb : ∀ (kV doc pm : Value) (an : Option Addr) (cdv ct : Value) (us : List Value), us.length = ps.length → bindArgs (PySem.W.fnOf x q (defArgs st) (defBody st) (defScope st) .none kV doc pm an cdv ct) ⟨us, []⟩ = pure (ps.zip us)) : Mt K C x q st ps :=
  ⟨a, _, fun_mk l c k, (fun_mk l c k).binds hb, e, i, k⟩
theorem kd_of {K : PySem.W.Frag} {a : Addr} {es : Array DictEntry} {n : Nat} {kvs : List (Int × Int)} (l : K.lookup a = some ⟨.type "dict", none, .dict es n, #[]⟩) (low : (a == sysModules) = false) (e : EntI es.toList kvs) : KDctI K a kvs := ⟨low, es, n, l, e⟩
theorem c_of {K : PySem.W.Frag} {mg : Str → Option Value} {h : Heap} {x : Str} {n : Int} {t : Nat} (X : K.In h) (G : h.Ns mainGlobals mg) (e : PySem.W.nsIn K mainGlobals x = some (some (.int n t))) : ∃ t, mg x = some (.int n t) := ⟨t, PySem.W.mg_of X G e⟩
theorem na_of {K : PySem.W.Frag} {C : Addr} {f : Str} (e : PySem.W.findIn K (.ref C) f = some none) : NoAttr K C f := e
theorem ox_of {K : PySem.W.Frag} {C : Addr} {nm q : Str} {N : Addr} {bs : List Value} {sn : List Str} {sub : List Value} {ab : Bool} {col : Option Bool} {dd : Option Addr} {m0 m1 m2 m3 m5 : Option Value}
    (xL : K.lookup C = some (excClassObj nm q C N bs [.type "ValueError", .type "Exception", .type "BaseException", .type "object"] true sn sub ab col dd m0 m1 m2 m3 m5 "ValueError.__new__"))
    (sa : PySem.W.findIn K (.ref C) "__setattr__" = some (some (.builtin "object.__setattr__"))) (eC : PySem.W.subIn K (.ref C) (.type "BaseException") = some true) (tC : PySem.W.typeIn K (.ref C) = some (.type "type")) (kC : PySem.W.keepIn K (.ref C) = true) : OexC K C :=
  ⟨⟨nm, q, N, bs, _, sn, sub, ab, col, dd, m0, m1, m2, m3, m5, xL, by decide +kernel⟩, sa, eC, tC, kC⟩
theorem exm_self {K : PySem.W.Frag} {S : Addr} (h1 : PySem.W.subIn K (.ref S) (.type "BaseException") = some true) (h2 : PySem.W.isClsIn K S = true) (h3 : PySem.W.typeIn K (.ref S) = some (.type "type")) (h4 : PySem.W.subIn K (.ref S) (.ref S) = some true) :
    PySem.W.exmOne K (.ref S) (.ref S) = some true := by
  have e1 : (PySem.W.subIn K (.ref S) (.type "BaseException") == some true) = true := by rw [h1] <;> rfl
  have e2 : ((PySem.W.clsIn K S).isSome && PySem.W.typeIn K (.ref S) == some (.type "type")) = true := by
    have h2' : (PySem.W.clsIn K S).isSome = true := h2
    rw [h2', h3] <;> rfl
  show (if (PySem.W.subIn K (.ref S) (.type "BaseException") == some true) = true then (if ((PySem.W.clsIn K S).isSome && PySem.W.typeIn K (.ref S) == some (.type "type")) = true then PySem.W.subIn K (.ref S) (.ref S) else none) else none) = some true
  rw [if_pos e1, if_pos e2]
  exact h4
theorem all_fin {P : Program} {w : World} {K : PySem.W.Frag} {mg : Str → Option Value} {fa : Addr} (T : Txt K mg) (hfa : mg "put" = some (.ref fa)) :
    ∃ fd : FuncData, (∀ (s : Shared) (us : List Value), us.length = (["t", "d", "x"] : List Str).length → BindsTo s fd ⟨us, []⟩ ((["t", "d", "x"] : List Str).zip us)) ∧ ∀ base : Heap, K.In base → base.Ns mainGlobals mg → FnOk P w K mg base CX0 10 fa fd ["t", "d", "x"] (sp_put K) := by
  have e := hfa.symm.trans T.f_put.g
  cases e
  refine ⟨T.f_put.fd, fun s us hu => ?_, fun base _ _ => ok_put T⟩
  obtain ⟨oc, od, kV, doc, pm, an, cdv, ct, osl, e, lk, hcd⟩ := T.f_put.F.ex
  rw [e]
  exact match us, hu with | [_, _, _], _ => .of_eq rfl
end Sr
open PySem PySem.W PyProof.Rows
set_option maxRecDepth 100000 in
set_option maxHeartbeats 0 in
theorem PySem.Challenge.cw_segmentrules_s08_put_holds : PySem.Challenge.rw_segmentrules_s08_put.Holds := by
  w_on; k_headS; (case hw => exact ⟨[.list [], .list [], .list []], by decide +kernel, by decide +kernel⟩)
  k_fillS
  refine L2.walk_specK (r := PySem.Challenge.rw_segmentrules_s08_put) (k := 10) (CX := L2.CX0) (ps := ["t", "d", "x"]) (sp := Sr.sp_put) (by decide +kernel) rfl rfl ⟨rfl, by decide, by decide⟩ (fun w h Y => PySem.W.kIn_of Y) ?F ?S (fun _ _ _ _ z => z)
  case F =>
    intro w mg fa h Y KX G hmg
    refine' Sr.all_fin { C := _, CF := _, aI := _, fI := _, a_KINDS := _, a_MARKS := _, g_Reading := (PySem.W.mg_of KX G ?gRd), g_Fault := (PySem.W.mg_of KX G ?gFt), cl_Reading := ⟨?cpg, ?chd, ?cpo, ?csa⟩, na_octets := (Sr.na_of ?na_octets), na_at := (Sr.na_of ?na_at), na_classes := (Sr.na_of ?na_classes), ox := (Sr.ox_of ?xL ?xsa ?xex ?xty ?xk), xf := ⟨?xga, ?xgg, ?xex, ?xhd⟩, xp := ?xp, exm := (Sr.exm_self ?xex ?xic ?xty ?xsc), ix := ?ix, tx := ?tx, FI := (L2.fun_mk (st := Sr.s_Fault___init__) ?fIl ?fIc ?fIk), bI := ((L2.fun_mk (st := Sr.s_Fault___init__) ?fIl ?fIc ?fIk).binds (ps := ["self", "place"]) (fun _ _ _ _ _ _ us hl => match us, hl with | [_, _], _ => rfl)), m_Reading___init__ := (Sr.Mt.of (st := Sr.s_Reading___init__) (ps := ["self", "octets"]) ?ma___init__ ?mi___init__ ?ml___init__ ?mc___init__ ?mk___init__ (fun _ _ _ _ _ _ us hl => match us, hl with | [_, _], _ => rfl)), m_Reading_here := (Sr.Mt.of (st := Sr.s_Reading_here) (ps := ["self"]) ?ma_here ?mi_here ?ml_here ?mc_here ?mk_here (fun _ _ _ _ _ _ us hl => match us, hl with | [_], _ => rfl)), m_Reading_take := (Sr.Mt.of (st := Sr.s_Reading_take) (ps := ["self", "octet"]) ?ma_take ?mi_take ?ml_take ?mc_take ?mk_take (fun _ _ _ _ _ _ us hl => match us, hl with | [_, _], _ => rfl)), m_Reading_number := (Sr.Mt.of (st := Sr.s_Reading_number) (ps := ["self", "spans"]) ?ma_number ?mi_number ?ml_number ?mc_number ?mk_number (fun _ _ _ _ _ _ us hl => match us, hl with | [_, _], _ => rfl)), m_Reading_ranges := (Sr.Mt.of (st := Sr.s_Reading_ranges) (ps := ["self"]) ?ma_ranges ?mi_ranges ?ml_ranges ?mc_ranges ?mk_ranges (fun _ _ _ _ _ _ us hl => match us, hl with | [_], _ => rfl)), m_Reading_read_classes := (Sr.Mt.of (st := Sr.s_Reading_read_classes) (ps := ["self"]) ?ma_read_classes ?mi_read_classes ?ml_read_classes ?mc_read_classes ?mk_read_classes (fun _ _ _ _ _ _ us hl => match us, hl with | [_], _ => rfl)), m_Reading_certain := (Sr.Mt.of (st := Sr.s_Reading_certain) (ps := ["self"]) ?ma_certain ?mi_certain ?ml_certain ?mc_certain ?mk_certain (fun _ _ _ _ _ _ us hl => match us, hl with | [_], _ => rfl)), m_Reading_atom := (Sr.Mt.of (st := Sr.s_Reading_atom) (ps := ["self"]) ?ma_atom ?mi_atom ?ml_atom ?mc_atom ?mk_atom (fun _ _ _ _ _ _ us hl => match us, hl with | [_], _ => rfl)), m_Reading_item := (Sr.Mt.of (st := Sr.s_Reading_item) (ps := ["self"]) ?ma_item ?mi_item ?ml_item ?mc_item ?mk_item (fun _ _ _ _ _ _ us hl => match us, hl with | [_], _ => rfl)), m_Reading_items_before := (Sr.Mt.of (st := Sr.s_Reading_items_before) (ps := ["self"]) ?ma_items_before ?mi_items_before ?ml_items_before ?mc_items_before ?mk_items_before (fun _ _ _ _ _ _ us hl => match us, hl with | [_], _ => rfl)), m_Reading_items_behind := (Sr.Mt.of (st := Sr.s_Reading_items_behind) (ps := ["self"]) ?ma_items_behind ?mi_items_behind ?ml_items_behind ?mc_items_behind ?mk_items_behind (fun _ _ _ _ _ _ us hl => match us, hl with | [_], _ => rfl)), m_Reading_read_rule := (Sr.Mt.of (st := Sr.s_Reading_read_rule) (ps := ["self"]) ?ma_read_rule ?mi_read_rule ?ml_read_rule ?mc_read_rule ?mk_read_rule (fun _ _ _ _ _ _ us hl => match us, hl with | [_], _ => rfl)), m_Reading_whole := (Sr.Mt.of (st := Sr.s_Reading_whole) (ps := ["self"]) ?ma_whole ?mi_whole ?ml_whole ?mc_whole ?mk_whole (fun _ _ _ _ _ _ us hl => match us, hl with | [_], _ => rfl)), mk_Reading := ⟨?mkR, ?ma___init__, ?mi___init__, ?kpR⟩, c_BLANK := (Sr.c_of KX G ?k_BLANK), c_ANY := (Sr.c_of KX G ?k_ANY), c_OF_CLASS := (Sr.c_of KX G ?k_OF_CLASS), c_CERTAIN := (Sr.c_of KX G ?k_CERTAIN), c_GREATEST := (Sr.c_of KX G ?k_GREATEST), c_LAST_CLASS := (Sr.c_of KX G ?k_LAST_CLASS), c_MOST_TIMES := (Sr.c_of KX G ?k_MOST_TIMES), c_LINE_END_ruletexts := (Sr.c_of KX G ?k_LINE_END_ruletexts), c_QUOTE := (Sr.c_of KX G ?k_QUOTE), c_CLASS_SIGN := (Sr.c_of KX G ?k_CLASS_SIGN), c_STAR := (Sr.c_of KX G ?k_STAR), c_PLUS := (Sr.c_of KX G ?k_PLUS), c_MINUS := (Sr.c_of KX G ?k_MINUS), c_DOT := (Sr.c_of KX G ?k_DOT), c_BEGINNING := (Sr.c_of KX G ?k_BEGINNING), c_BAR := (Sr.c_of KX G ?k_BAR), c_ENDING := (Sr.c_of KX G ?k_ENDING), c_MOST_PIECES := (Sr.c_of KX G ?k_MOST_PIECES), c_CHARACTER := (Sr.c_of KX G ?k_CHARACTER), c_OPENS := (Sr.c_of KX G ?k_OPENS), c_CLOSES := (Sr.c_of KX G ?k_CLOSES), c_ALONE := (Sr.c_of KX G ?k_ALONE), c_CURLY := (Sr.c_of KX G ?k_CURLY), c_CURLY_END := (Sr.c_of KX G ?k_CURLY_END), c_KINDS := (PySem.W.mg_of KX G ?k_KINDS), d_KINDS := (Sr.kd_of ?dkl ?dkw ?dke), c_MARKS := (PySem.W.mg_of KX G ?k_MARKS), d_MARKS := (Sr.tup_of ?mkl ?mkz ?mkv), c_MOST_LINES := (Sr.c_of KX G ?k_MOST_LINES), c_MOST_PARAGRAPH := (Sr.c_of KX G ?k_MOST_PARAGRAPH), c_LINE_END_documents := (Sr.c_of KX G ?k_LINE_END_documents), c_RAW := (Sr.c_of KX G ?k_RAW), c_PARAGRAPH := (Sr.c_of KX G ?k_PARAGRAPH), c_MOST_DOCUMENT := (Sr.c_of KX G ?k_MOST_DOCUMENT), c_TAKEN := (Sr.c_of KX G ?k_TAKEN), c_KEPT := (Sr.c_of KX G ?k_KEPT), c_MOST_RULES_TEXT := (Sr.c_of KX G ?k_MOST_RULES_TEXT), c_TOO_GREAT := (Sr.c_of KX G ?k_TOO_GREAT), c_WRONG := (Sr.c_of KX G ?k_WRONG), b_len := (PySem.W.mg_none_of KX G ?z_len), b_max := (PySem.W.mg_none_of KX G ?z_max), b_int := (PySem.W.mg_none_of KX G ?z_int), b_tuple := (PySem.W.mg_none_of KX G ?z_tuple), b_list := (PySem.W.mg_none_of KX G ?z_list), b_range := (PySem.W.mg_none_of KX G ?z_range), b_enumerate := (PySem.W.mg_none_of KX G ?z_enumerate), b_zip := (PySem.W.mg_none_of KX G ?z_zip), b_reversed := (PySem.W.mg_none_of KX G ?z_reversed), b_sorted := (PySem.W.mg_none_of KX G ?z_sorted), b_ord := (PySem.W.mg_none_of KX G ?z_ord), b_str := (PySem.W.mg_none_of KX G ?z_str), b_ValueError := (PySem.W.mg_none_of KX G ?z_ValueError), f_further := (Sr.Fn.of (st := Sr.s_further) (ps := ["octet"]) KX G ?fa_further ?fl_further ?fc_further ?fk_further (fun _ _ _ _ _ _ us hl => match us, hl with | [_], _ => rfl)), f_least_behind := (Sr.Fn.of (st := Sr.s_least_behind) (ps := ["got"]) KX G ?fa_least_behind ?fl_least_behind ?fc_least_behind ?fk_least_behind (fun _ _ _ _ _ _ us hl => match us, hl with | [_], _ => rfl)), f_most_behind := (Sr.Fn.of (st := Sr.s_most_behind) (ps := ["got"]) KX G ?fa_most_behind ?fl_most_behind ?fc_most_behind ?fk_most_behind (fun _ _ _ _ _ _ us hl => match us, hl with | [_], _ => rfl)), f_code_of := (Sr.Fn.of (st := Sr.s_code_of) (ps := ["got"]) KX G ?fa_code_of ?fl_code_of ?fc_code_of ?fk_code_of (fun _ _ _ _ _ _ us hl => match us, hl with | [_], _ => rfl)), f_character_at := (Sr.Fn.of (st := Sr.s_character_at) (ps := ["octets", "at", "end"]) KX G ?fa_character_at ?fl_character_at ?fc_character_at ?fk_character_at (fun _ _ _ _ _ _ us hl => match us, hl with | [_, _, _], _ => rfl)), f_octets_of := (Sr.Fn.of (st := Sr.s_octets_of) (ps := ["code"]) KX G ?fa_octets_of ?fl_octets_of ?fc_octets_of ?fk_octets_of (fun _ _ _ _ _ _ us hl => match us, hl with | [_], _ => rfl)), f_is_within := (Sr.Fn.of (st := Sr.s_is_within) (ps := ["code", "ranges"]) KX G ?fa_is_within ?fl_is_within ?fc_is_within ?fk_is_within (fun _ _ _ _ _ _ us hl => match us, hl with | [_, _], _ => rfl)), f_can_begin := (Sr.Fn.of (st := Sr.s_can_begin) (ps := ["number", "low", "high"]) KX G ?fa_can_begin ?fl_can_begin ?fc_can_begin ?fk_can_begin (fun _ _ _ _ _ _ us hl => match us, hl with | [_, _, _], _ => rfl)), f_is_begun := (Sr.Fn.of (st := Sr.s_is_begun) (ps := ["number", "spans"]) KX G ?fa_is_begun ?fl_is_begun ?fc_is_begun ?fk_is_begun (fun _ _ _ _ _ _ us hl => match us, hl with | [_, _], _ => rfl)), f_read_rules := (Sr.Fn.of (st := Sr.s_read_rules) (ps := ["octets"]) KX G ?fa_read_rules ?fl_read_rules ?fc_read_rules ?fk_read_rules (fun _ _ _ _ _ _ us hl => match us, hl with | [_], _ => rfl)), f_are_items_beyond := (Sr.Fn.of (st := Sr.s_are_items_beyond) (ps := ["items"]) KX G ?fa_are_items_beyond ?fl_are_items_beyond ?fc_are_items_beyond ?fk_are_items_beyond (fun _ _ _ _ _ _ us hl => match us, hl with | [_], _ => rfl)), f_is_beyond := (Sr.Fn.of (st := Sr.s_is_beyond) (ps := ["ruling"]) KX G ?fa_is_beyond ?fl_is_beyond ?fc_is_beyond ?fk_is_beyond (fun _ _ _ _ _ _ us hl => match us, hl with | [_], _ => rfl)), f_width_of := (Sr.Fn.of (st := Sr.s_width_of) (ps := ["atom"]) KX G ?fa_width_of ?fl_width_of ?fc_width_of ?fk_width_of (fun _ _ _ _ _ _ us hl => match us, hl with | [_], _ => rfl)), f_stands_at := (Sr.Fn.of (st := Sr.s_stands_at) (ps := ["codes", "atom", "classes"]) KX G ?fa_stands_at ?fl_stands_at ?fc_stands_at ?fk_stands_at (fun _ _ _ _ _ _ us hl => match us, hl with | [_, _, _], _ => rfl)), f_moved_on := (Sr.Fn.of (st := Sr.s_moved_on) (ps := ["places", "stands", "width"]) KX G ?fa_moved_on ?fl_moved_on ?fc_moved_on ?fk_moved_on (fun _ _ _ _ _ _ us hl => match us, hl with | [_, _, _], _ => rfl)), f_moved_back := (Sr.Fn.of (st := Sr.s_moved_back) (ps := ["places", "stands", "width"]) KX G ?fa_moved_back ?fl_moved_back ?fc_moved_back ?fk_moved_back (fun _ _ _ _ _ _ us hl => match us, hl with | [_, _, _], _ => rfl)), f_past_item := (Sr.Fn.of (st := Sr.s_past_item) (ps := ["codes", "item", "classes", "places", "is_back"]) KX G ?fa_past_item ?fl_past_item ?fc_past_item ?fk_past_item (fun _ _ _ _ _ _ us hl => match us, hl with | [_, _, _, _, _], _ => rfl)), f_places_before := (Sr.Fn.of (st := Sr.s_places_before) (ps := ["codes", "rule", "classes"]) KX G ?fa_places_before ?fl_places_before ?fc_places_before ?fk_places_before (fun _ _ _ _ _ _ us hl => match us, hl with | [_, _, _], _ => rfl)), f_places_behind := (Sr.Fn.of (st := Sr.s_places_behind) (ps := ["codes", "rule", "classes"]) KX G ?fa_places_behind ?fl_places_behind ?fc_places_behind ?fk_places_behind (fun _ _ _ _ _ _ us hl => match us, hl with | [_, _, _], _ => rfl)), f_deciding := (Sr.Fn.of (st := Sr.s_deciding) (ps := ["codes", "ruling"]) KX G ?fa_deciding ?fl_deciding ?fc_deciding ?fk_deciding (fun _ _ _ _ _ _ us hl => match us, hl with | [_, _], _ => rfl)), f_tag_at := (Sr.Fn.of (st := Sr.s_tag_at) (ps := ["octets", "at", "end"]) KX G ?fa_tag_at ?fl_tag_at ?fc_tag_at ?fk_tag_at (fun _ _ _ _ _ _ us hl => match us, hl with | [_, _, _], _ => rfl)), f_piece_at := (Sr.Fn.of (st := Sr.s_piece_at) (ps := ["octets", "at", "end"]) KX G ?fa_piece_at ?fl_piece_at ?fc_piece_at ?fk_piece_at (fun _ _ _ _ _ _ us hl => match us, hl with | [_, _, _], _ => rfl)), f_read_row := (Sr.Fn.of (st := Sr.s_read_row) (ps := ["octets", "begin", "end"]) KX G ?fa_read_row ?fl_read_row ?fc_read_row ?fk_read_row (fun _ _ _ _ _ _ us hl => match us, hl with | [_, _, _], _ => rfl)), f_piece_octets := (Sr.Fn.of (st := Sr.s_piece_octets) (ps := ["piece"]) KX G ?fa_piece_octets ?fl_piece_octets ?fc_piece_octets ?fk_piece_octets (fun _ _ _ _ _ _ us hl => match us, hl with | [_], _ => rfl)), f_row_octets := (Sr.Fn.of (st := Sr.s_row_octets) (ps := ["pieces"]) KX G ?fa_row_octets ?fl_row_octets ?fc_row_octets ?fk_row_octets (fun _ _ _ _ _ _ us hl => match us, hl with | [_], _ => rfl)), f_codes_of := (Sr.Fn.of (st := Sr.s_codes_of) (ps := ["pieces"]) KX G ?fa_codes_of ?fl_codes_of ?fc_codes_of ?fk_codes_of (fun _ _ _ _ _ _ us hl => match us, hl with | [_], _ => rfl)), f_cut_place := (Sr.Fn.of (st := Sr.s_cut_place) (ps := ["pieces", "before", "behind"]) KX G ?fa_cut_place ?fl_cut_place ?fc_cut_place ?fk_cut_place (fun _ _ _ _ _ _ us hl => match us, hl with | [_, _, _], _ => rfl)), f_cuts_of := (Sr.Fn.of (st := Sr.s_cuts_of) (ps := ["pieces", "ruling"]) KX G ?fa_cuts_of ?fl_cuts_of ?fc_cuts_of ?fk_cuts_of (fun _ _ _ _ _ _ us hl => match us, hl with | [_, _], _ => rfl)), f_trimmed := (Sr.Fn.of (st := Sr.s_trimmed) (ps := ["pieces", "begin", "end"]) KX G ?fa_trimmed ?fl_trimmed ?fc_trimmed ?fk_trimmed (fun _ _ _ _ _ _ us hl => match us, hl with | [_, _, _], _ => rfl)), f_has_more := (Sr.Fn.of (st := Sr.s_has_more) (ps := ["pieces"]) KX G ?fa_has_more ?fl_has_more ?fc_has_more ?fk_has_more (fun _ _ _ _ _ _ us hl => match us, hl with | [_], _ => rfl)), f_segments_of := (Sr.Fn.of (st := Sr.s_segments_of) (ps := ["pieces", "ruling"]) KX G ?fa_segments_of ?fl_segments_of ?fc_segments_of ?fk_segments_of (fun _ _ _ _ _ _ us hl => match us, hl with | [_, _], _ => rfl)), f_document_segments := (Sr.Fn.of (st := Sr.s_document_segments) (ps := ["lines", "ruling"]) KX G ?fa_document_segments ?fl_document_segments ?fc_document_segments ?fk_document_segments (fun _ _ _ _ _ _ us hl => match us, hl with | [_, _], _ => rfl)), f_is_wrong := (Sr.Fn.of (st := Sr.s_is_wrong) (ps := ["seen", "kind", "number"]) KX G ?fa_is_wrong ?fl_is_wrong ?fc_is_wrong ?fk_is_wrong (fun _ _ _ _ _ _ us hl => match us, hl with | [_, _, _], _ => rfl)), f_halves_of := (Sr.Fn.of (st := Sr.s_halves_of) (ps := ["pieces"]) KX G ?fa_halves_of ?fl_halves_of ?fc_halves_of ?fk_halves_of (fun _ _ _ _ _ _ us hl => match us, hl with | [_], _ => rfl)), f_is_paired := (Sr.Fn.of (st := Sr.s_is_paired) (ps := ["pieces"]) KX G ?fa_is_paired ?fl_is_paired ?fc_is_paired ?fk_is_paired (fun _ _ _ _ _ _ us hl => match us, hl with | [_], _ => rfl)), f_tags_of := (Sr.Fn.of (st := Sr.s_tags_of) (ps := ["pieces"]) KX G ?fa_tags_of ?fl_tags_of ?fc_tags_of ?fk_tags_of (fun _ _ _ _ _ _ us hl => match us, hl with | [_], _ => rfl)), f_is_fitting := (Sr.Fn.of (st := Sr.s_is_fitting) (ps := ["target", "segment"]) KX G ?fa_is_fitting ?fl_is_fitting ?fc_is_fitting ?fk_is_fitting (fun _ _ _ _ _ _ us hl => match us, hl with | [_, _], _ => rfl)), f_line_end := (Sr.Fn.of (st := Sr.s_line_end) (ps := ["octets", "at"]) KX G ?fa_line_end ?fl_line_end ?fc_line_end ?fk_line_end (fun _ _ _ _ _ _ us hl => match us, hl with | [_, _], _ => rfl)), f_early_fault := (Sr.Fn.of (st := Sr.s_early_fault) (ps := ["octets", "at", "end", "many"]) KX G ?fa_early_fault ?fl_early_fault ?fc_early_fault ?fk_early_fault (fun _ _ _ _ _ _ us hl => match us, hl with | [_, _, _, _], _ => rfl)), f_raw_fault := (Sr.Fn.of (st := Sr.s_raw_fault) (ps := ["octets", "at", "end"]) KX G ?fa_raw_fault ?fl_raw_fault ?fc_raw_fault ?fk_raw_fault (fun _ _ _ _ _ _ us hl => match us, hl with | [_, _, _], _ => rfl)), f_read_line := (Sr.Fn.of (st := Sr.s_read_line) (ps := ["octets", "at", "end"]) KX G ?fa_read_line ?fl_read_line ?fc_read_line ?fk_read_line (fun _ _ _ _ _ _ us hl => match us, hl with | [_, _, _], _ => rfl)), f_read_document := (Sr.Fn.of (st := Sr.s_read_document) (ps := ["octets"]) KX G ?fa_read_document ?fl_read_document ?fc_read_document ?fk_read_document (fun _ _ _ _ _ _ us hl => match us, hl with | [_], _ => rfl)), f_sign_fault := (Sr.Fn.of (st := Sr.s_sign_fault) (ps := ["octets", "at", "end"]) KX G ?fa_sign_fault ?fl_sign_fault ?fc_sign_fault ?fk_sign_fault (fun _ _ _ _ _ _ us hl => match us, hl with | [_, _, _], _ => rfl)), f_read_target := (Sr.Fn.of (st := Sr.s_read_target) (ps := ["octets", "at", "end", "segment"]) KX G ?fa_read_target ?fl_read_target ?fc_read_target ?fk_read_target (fun _ _ _ _ _ _ us hl => match us, hl with | [_, _, _, _], _ => rfl)), f_read_targets := (Sr.Fn.of (st := Sr.s_read_targets) (ps := ["octets", "segments"]) KX G ?fa_read_targets ?fl_read_targets ?fc_read_targets ?fk_read_targets (fun _ _ _ _ _ _ us hl => match us, hl with | [_, _], _ => rfl)), f_target_row := (Sr.Fn.of (st := Sr.s_target_row) (ps := ["pieces", "places", "targets"]) KX G ?fa_target_row ?fl_target_row ?fc_target_row ?fk_target_row (fun _ _ _ _ _ _ us hl => match us, hl with | [_, _, _], _ => rfl)), f_target_document := (Sr.Fn.of (st := Sr.s_target_document) (ps := ["lines", "parts", "targets"]) KX G ?fa_target_document ?fl_target_document ?fc_target_document ?fk_target_document (fun _ _ _ _ _ _ us hl => match us, hl with | [_, _, _], _ => rfl)), f_put := (Sr.Fn.of (st := Sr.s_put) (ps := ["t", "d", "x"]) KX G ?fa_put ?fl_put ?fc_put ?fk_put (fun _ _ _ _ _ _ us hl => match us, hl with | [_, _, _], _ => rfl)) } hmg
    (case gRd => k_is)
    (case gFt => k_is)
    (case cpg => k_is)
    (case chd => k_is)
    (case cpo => k_is)
    (case csa => k_is)
    (case na_octets => k_is)
    (case na_at => k_is)
    (case na_classes => k_is)
    (case xL => k_is)
    (case xsa => k_is)
    (case xex => k_is)
    (case xty => k_is)
    (case xk => k_is)
    (case xga => k_is)
    (case xgg => k_is)
    (case xhd => k_is)
    (case xp => k_is)
    (case xic => k_is)
    (case xsc => first | rfl | k_is)
    (case ix => k_is)
    (case tx => k_is)
    (case fIl => k_is)
    (case fIc => k_is)
    (case fIk => k_is)
    (case ma___init__ => k_is)
    (case mi___init__ => k_is)
    (case ml___init__ => k_is)
    (case mc___init__ => k_is)
    (case mk___init__ => k_is)
    (case ma_here => k_is)
    (case mi_here => k_is)
    (case ml_here => k_is)
    (case mc_here => k_is)
    (case mk_here => k_is)
    (case ma_take => k_is)
    (case mi_take => k_is)
    (case ml_take => k_is)
    (case mc_take => k_is)
    (case mk_take => k_is)
    (case ma_number => k_is)
    (case mi_number => k_is)
    (case ml_number => k_is)
    (case mc_number => k_is)
    (case mk_number => k_is)
    (case ma_ranges => k_is)
    (case mi_ranges => k_is)
    (case ml_ranges => k_is)
    (case mc_ranges => k_is)
    (case mk_ranges => k_is)
    (case ma_read_classes => k_is)
    (case mi_read_classes => k_is)
    (case ml_read_classes => k_is)
    (case mc_read_classes => k_is)
    (case mk_read_classes => k_is)
    (case ma_certain => k_is)
    (case mi_certain => k_is)
    (case ml_certain => k_is)
    (case mc_certain => k_is)
    (case mk_certain => k_is)
    (case ma_atom => k_is)
    (case mi_atom => k_is)
    (case ml_atom => k_is)
    (case mc_atom => k_is)
    (case mk_atom => k_is)
    (case ma_item => k_is)
    (case mi_item => k_is)
    (case ml_item => k_is)
    (case mc_item => k_is)
    (case mk_item => k_is)
    (case ma_items_before => k_is)
    (case mi_items_before => k_is)
    (case ml_items_before => k_is)
    (case mc_items_before => k_is)
    (case mk_items_before => k_is)
    (case ma_items_behind => k_is)
    (case mi_items_behind => k_is)
    (case ml_items_behind => k_is)
    (case mc_items_behind => k_is)
    (case mk_items_behind => k_is)
    (case ma_read_rule => k_is)
    (case mi_read_rule => k_is)
    (case ml_read_rule => k_is)
    (case mc_read_rule => k_is)
    (case mk_read_rule => k_is)
    (case ma_whole => k_is)
    (case mi_whole => k_is)
    (case ml_whole => k_is)
    (case mc_whole => k_is)
    (case mk_whole => k_is)
    (case mkR => k_is)
    (case kpR => k_is)
    (case k_BLANK => k_is)
    (case k_ANY => k_is)
    (case k_OF_CLASS => k_is)
    (case k_CERTAIN => k_is)
    (case k_GREATEST => k_is)
    (case k_LAST_CLASS => k_is)
    (case k_MOST_TIMES => k_is)
    (case k_LINE_END_ruletexts => k_is)
    (case k_QUOTE => k_is)
    (case k_CLASS_SIGN => k_is)
    (case k_STAR => k_is)
    (case k_PLUS => k_is)
    (case k_MINUS => k_is)
    (case k_DOT => k_is)
    (case k_BEGINNING => k_is)
    (case k_BAR => k_is)
    (case k_ENDING => k_is)
    (case k_MOST_PIECES => k_is)
    (case k_CHARACTER => k_is)
    (case k_OPENS => k_is)
    (case k_CLOSES => k_is)
    (case k_ALONE => k_is)
    (case k_CURLY => k_is)
    (case k_CURLY_END => k_is)
    (case k_KINDS => k_is)
    (case dkl => k_is)
    (case dkw => decide +kernel)
    (case dke => exact .cons (by decide +kernel) (.cons (by decide +kernel) (.cons (by decide +kernel) .nil)))
    (case k_MARKS => k_is)
    (case mkl => k_is)
    (case mkz => decide)
    (case mkv => exact .cons ⟨_, rfl⟩ (.cons ⟨_, rfl⟩ (.cons ⟨_, rfl⟩ (.cons ⟨_, rfl⟩ .nil))))
    (case k_MOST_LINES => k_is)
    (case k_MOST_PARAGRAPH => k_is)
    (case k_LINE_END_documents => k_is)
    (case k_RAW => k_is)
    (case k_PARAGRAPH => k_is)
    (case k_MOST_DOCUMENT => k_is)
    (case k_TAKEN => k_is)
    (case k_KEPT => k_is)
    (case k_MOST_RULES_TEXT => k_is)
    (case k_TOO_GREAT => k_is)
    (case k_WRONG => k_is)
    (case z_len => k_is)
    (case z_max => k_is)
    (case z_int => k_is)
    (case z_tuple => k_is)
    (case z_list => k_is)
    (case z_range => k_is)
    (case z_enumerate => k_is)
    (case z_zip => k_is)
    (case z_reversed => k_is)
    (case z_sorted => k_is)
    (case z_ord => k_is)
    (case z_str => k_is)
    (case z_ValueError => k_is)
    (case fa_further => k_is)
    (case fl_further => k_is)
    (case fc_further => k_is)
    (case fk_further => k_is)
    (case fa_least_behind => k_is)
    (case fl_least_behind => k_is)
    (case fc_least_behind => k_is)
    (case fk_least_behind => k_is)
    (case fa_most_behind => k_is)
    (case fl_most_behind => k_is)
    (case fc_most_behind => k_is)
    (case fk_most_behind => k_is)
    (case fa_code_of => k_is)
    (case fl_code_of => k_is)
    (case fc_code_of => k_is)
    (case fk_code_of => k_is)
    (case fa_character_at => k_is)
    (case fl_character_at => k_is)
    (case fc_character_at => k_is)
    (case fk_character_at => k_is)
    (case fa_octets_of => k_is)
    (case fl_octets_of => k_is)
    (case fc_octets_of => k_is)
    (case fk_octets_of => k_is)
    (case fa_is_within => k_is)
    (case fl_is_within => k_is)
    (case fc_is_within => k_is)
    (case fk_is_within => k_is)
    (case fa_can_begin => k_is)
    (case fl_can_begin => k_is)
    (case fc_can_begin => k_is)
    (case fk_can_begin => k_is)
    (case fa_is_begun => k_is)
    (case fl_is_begun => k_is)
    (case fc_is_begun => k_is)
    (case fk_is_begun => k_is)
    (case fa_read_rules => k_is)
    (case fl_read_rules => k_is)
    (case fc_read_rules => k_is)
    (case fk_read_rules => k_is)
    (case fa_are_items_beyond => k_is)
    (case fl_are_items_beyond => k_is)
    (case fc_are_items_beyond => k_is)
    (case fk_are_items_beyond => k_is)
    (case fa_is_beyond => k_is)
    (case fl_is_beyond => k_is)
    (case fc_is_beyond => k_is)
    (case fk_is_beyond => k_is)
    (case fa_width_of => k_is)
    (case fl_width_of => k_is)
    (case fc_width_of => k_is)
    (case fk_width_of => k_is)
    (case fa_stands_at => k_is)
    (case fl_stands_at => k_is)
    (case fc_stands_at => k_is)
    (case fk_stands_at => k_is)
    (case fa_moved_on => k_is)
    (case fl_moved_on => k_is)
    (case fc_moved_on => k_is)
    (case fk_moved_on => k_is)
    (case fa_moved_back => k_is)
    (case fl_moved_back => k_is)
    (case fc_moved_back => k_is)
    (case fk_moved_back => k_is)
    (case fa_past_item => k_is)
    (case fl_past_item => k_is)
    (case fc_past_item => k_is)
    (case fk_past_item => k_is)
    (case fa_places_before => k_is)
    (case fl_places_before => k_is)
    (case fc_places_before => k_is)
    (case fk_places_before => k_is)
    (case fa_places_behind => k_is)
    (case fl_places_behind => k_is)
    (case fc_places_behind => k_is)
    (case fk_places_behind => k_is)
    (case fa_deciding => k_is)
    (case fl_deciding => k_is)
    (case fc_deciding => k_is)
    (case fk_deciding => k_is)
    (case fa_tag_at => k_is)
    (case fl_tag_at => k_is)
    (case fc_tag_at => k_is)
    (case fk_tag_at => k_is)
    (case fa_piece_at => k_is)
    (case fl_piece_at => k_is)
    (case fc_piece_at => k_is)
    (case fk_piece_at => k_is)
    (case fa_read_row => k_is)
    (case fl_read_row => k_is)
    (case fc_read_row => k_is)
    (case fk_read_row => k_is)
    (case fa_piece_octets => k_is)
    (case fl_piece_octets => k_is)
    (case fc_piece_octets => k_is)
    (case fk_piece_octets => k_is)
    (case fa_row_octets => k_is)
    (case fl_row_octets => k_is)
    (case fc_row_octets => k_is)
    (case fk_row_octets => k_is)
    (case fa_codes_of => k_is)
    (case fl_codes_of => k_is)
    (case fc_codes_of => k_is)
    (case fk_codes_of => k_is)
    (case fa_cut_place => k_is)
    (case fl_cut_place => k_is)
    (case fc_cut_place => k_is)
    (case fk_cut_place => k_is)
    (case fa_cuts_of => k_is)
    (case fl_cuts_of => k_is)
    (case fc_cuts_of => k_is)
    (case fk_cuts_of => k_is)
    (case fa_trimmed => k_is)
    (case fl_trimmed => k_is)
    (case fc_trimmed => k_is)
    (case fk_trimmed => k_is)
    (case fa_has_more => k_is)
    (case fl_has_more => k_is)
    (case fc_has_more => k_is)
    (case fk_has_more => k_is)
    (case fa_segments_of => k_is)
    (case fl_segments_of => k_is)
    (case fc_segments_of => k_is)
    (case fk_segments_of => k_is)
    (case fa_document_segments => k_is)
    (case fl_document_segments => k_is)
    (case fc_document_segments => k_is)
    (case fk_document_segments => k_is)
    (case fa_is_wrong => k_is)
    (case fl_is_wrong => k_is)
    (case fc_is_wrong => k_is)
    (case fk_is_wrong => k_is)
    (case fa_halves_of => k_is)
    (case fl_halves_of => k_is)
    (case fc_halves_of => k_is)
    (case fk_halves_of => k_is)
    (case fa_is_paired => k_is)
    (case fl_is_paired => k_is)
    (case fc_is_paired => k_is)
    (case fk_is_paired => k_is)
    (case fa_tags_of => k_is)
    (case fl_tags_of => k_is)
    (case fc_tags_of => k_is)
    (case fk_tags_of => k_is)
    (case fa_is_fitting => k_is)
    (case fl_is_fitting => k_is)
    (case fc_is_fitting => k_is)
    (case fk_is_fitting => k_is)
    (case fa_line_end => k_is)
    (case fl_line_end => k_is)
    (case fc_line_end => k_is)
    (case fk_line_end => k_is)
    (case fa_early_fault => k_is)
    (case fl_early_fault => k_is)
    (case fc_early_fault => k_is)
    (case fk_early_fault => k_is)
    (case fa_raw_fault => k_is)
    (case fl_raw_fault => k_is)
    (case fc_raw_fault => k_is)
    (case fk_raw_fault => k_is)
    (case fa_read_line => k_is)
    (case fl_read_line => k_is)
    (case fc_read_line => k_is)
    (case fk_read_line => k_is)
    (case fa_read_document => k_is)
    (case fl_read_document => k_is)
    (case fc_read_document => k_is)
    (case fk_read_document => k_is)
    (case fa_sign_fault => k_is)
    (case fl_sign_fault => k_is)
    (case fc_sign_fault => k_is)
    (case fk_sign_fault => k_is)
    (case fa_read_target => k_is)
    (case fl_read_target => k_is)
    (case fc_read_target => k_is)
    (case fk_read_target => k_is)
    (case fa_read_targets => k_is)
    (case fl_read_targets => k_is)
    (case fc_read_targets => k_is)
    (case fk_read_targets => k_is)
    (case fa_target_row => k_is)
    (case fl_target_row => k_is)
    (case fc_target_row => k_is)
    (case fk_target_row => k_is)
    (case fa_target_document => k_is)
    (case fl_target_document => k_is)
    (case fc_target_document => k_is)
    (case fk_target_document => k_is)
    (case fa_put => k_is)
    (case fl_put => k_is)
    (case fc_put => k_is)
    (case fk_put => k_is)
  case S =>
    intro K H xs a hO hwi hask hx
    cases hx with
    | cons h0 hx =>
      cases hx with
      | cons h1 hx =>
        cases hx with
        | cons h2 hx =>
          cases hx
          cases h0 with
          | @lst a0 _ _ hs0 ha0 =>
            cases h1 with
            | @lst a1 _ _ hs1 ha1 =>
              cases h2 with
              | @lst a2 _ _ hs2 ha2 =>
                have e0 := L2.ints_dw a.1 _ ha0
                have e1 := L2.ints_dw a.2.1 _ ha1
                have e2 := L2.ints_dw a.2.2.1 _ ha2
                subst e0
                subst e1
                subst e2
                have q : ((Codec.inLen 0 65600 a.1 && a.1.all (Codec.inInt 0 255)) && ((Codec.inLen 0 110000 a.2.1 && a.2.1.all (Codec.inInt 0 255)) && ((Codec.inLen 0 110000 a.2.2.1 && a.2.2.1.all (Codec.inInt 0 255)) && true))) = true := hwi
                rw [Bool.and_eq_true, Bool.and_eq_true, Bool.and_eq_true, Bool.and_eq_true, Bool.and_eq_true, Bool.and_eq_true] at q
                obtain ⟨⟨q1, q2⟩, ⟨q3, q4⟩, ⟨q5, q6⟩, _⟩ := q
                obtain ⟨b, hb1, hb2⟩ := Sr.bytes_of q2
                obtain ⟨c, hc1, hc2⟩ := Sr.bytes_of q4
                obtain ⟨d, hd1, hd2⟩ := Sr.bytes_of q6
                have l1 := (Codec.inNat_iff.mp q1).2
                have l2 := (Codec.inNat_iff.mp q3).2
                have l3 := (Codec.inNat_iff.mp q5).2
                rw [← hb1, Sr.bI_len] at l1
                rw [← hc1, Sr.bI_len] at l2
                rw [← hd1, Sr.bI_len] at l3
                refine ⟨a0, a1, a2, b, c, d, rfl, ?_, ?_, ?_, by omega, by omega, by omega, fun p H' hs' hp => ?_⟩
                · show L2.SqL K H _ ((Sr.bI b).map L2.V.int)
                  rw [hb1]; exact hs0
                · show L2.SqL K H _ ((Sr.bI c).map L2.V.int)
                  rw [hc1]; exact hs1
                · show L2.SqL K H _ ((Sr.bI d).map L2.V.int)
                  rw [hd1]; exact hs2
                · have e : PyYqfhba.put a.1 a.2.1 a.2.2.1 = Sr.putAns b c d := by
                    rw [Sr.putAns_eq]
                    exact congr (congr (congrArg Sr.putAns hb2) hc2) hd2
                  show L2.Dw K H' (.ref p) ((Codec.list 0 1048576 (.int _ _)).enc (PyYqfhba.put a.1 a.2.1 a.2.2.1))
                  rw [e]
                  exact .lst (L2.SqL.of hp) (L2.dw_ints _)
#print axioms PySem.Challenge.cw_segmentrules_s08_put_holds
