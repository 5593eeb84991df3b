import PyProof.Rows.All
import Wide.All
import OpenK.AllK
import Wide.FinOn
import PyProof.EqAt
import PyProof.EqKinds
import PyProof.TupleCall
import Open.SpecLaws
import KE.OsGo
import HandS.ForSpec
import HandS.Comp
import HandS.Dict
import HandS.Iter
import HandS.Walk
import HandS.Conv
import HandS.ExcInit
import HandS.ExcField
import HandS.Style
import HandS.DictEq
import KE.KEqSeq
import KE.BitLaws
import KE.OsHead
import PySem.Challenge.RW_segmentrules_s01_rules
set_option Elab.async false
set_option linter.all false
set_option maxRecDepth 100000
set_option maxHeartbeats 4000000
/-! # Words over the hand layer: facts of a def, steps of a reading -/
namespace Sr
open PySem PySem.Spec PyProof.Rows L2
/-- a def of the module: where it stands, that it is it, how it binds -/
structure Fn (K : PySem.W.Frag) (mg : Str → Option Value) (x : Str) (st : Stmt) (ps : List Str) where
  a : Addr
  fd : FuncData
  F : Fun K x x st a fd
  b : Binds K fd ps []
  g : mg x = some (.ref a)
/-- a method of a class at C -/
structure Mt (K : PySem.W.Frag) (C : Addr) (x qual : Str) (st : Stmt) (ps : List Str) where
  a : Addr
  fd : FuncData
  F : Fun K x qual st a fd
  b : Binds K fd ps []
  m : Meth K C x a
/-- a whole number among the module's constants -/
theorem pe_gi {X : Cx} {x : Str} {n : Int} {pos : Pos} (h : ∃ t, X.mg x = some (.int n t)) (hg : Gl X x := by rfl) (hd : (x == ("__debug__" : Str)) = false := by decide) : PE X (.Name x pos) (tC (.int n)) := by
  obtain ⟨t, e⟩ := h
  exact pe_glob hg e ⟨t, rfl⟩ hd
/-- an object among the module's constants -/
theorem pe_gr {X : Cx} {x : Str} {a : Addr} {pos : Pos} (h : X.mg x = some (.ref a)) (hg : Gl X x := by rfl) (hd : (x == ("__debug__" : Str)) = false := by decide) : PE X (.Name x pos) (tC (.ref a)) := pe_glob hg h rfl hd
/-! ### the layer's rules, the written part told by its name -/
section
variable {X : Cx} (K : PySem.W.Frag)
def rLen (K : PySem.W.Frag) : List V → Hp → VK → Prop := fun xs H Q => ∃ p ys, xs = [.ref p] ∧ (SqL K H p ys ∨ SqT K H p ys) ∧ Q (.int ys.length) H
theorem cr_len (hK : X.K = K := by rfl) : CallR X (.builtin "len") (rLen K) := by subst hK; exact call_len_seq
def rListS (K : PySem.W.Frag) : List V → Hp → VK → Prop := fun xs H Q => ∃ p ys, xs = [.ref p] ∧ (SqL K H p ys ∨ SqT K H p ys) ∧ ∀ l, H l = none → Q (.ref l) (upd H l (.lst ys))
theorem cr_list (hK : X.K = K := by rfl) : CallR X (.type "list") (rListS K) := by subst hK; exact call_list_of
def rTupS (K : PySem.W.Frag) : List V → Hp → VK → Prop := fun xs H Q => ∃ p ys, xs = [.ref p] ∧ ((SqL K H p ys ∧ ∀ l, H l = none → Q (.ref l) (upd H l (.tup ys))) ∨ (SqT K H p ys ∧ Q (.ref p) H))
theorem cr_tuple (hK : X.K = K := by rfl) : CallR X (.type "tuple") (rTupS K) := by subst hK; exact call_tuple_of
theorem ixLK (hK : X.K = K := by rfl) : IxR X (rIxL K) := by subst hK; exact ix_list
theorem ixTK (hK : X.K = K := by rfl) : IxR X (rIxT K) := by subst hK; exact ix_tup
theorem slLK (hK : X.K = K := by rfl) : SlR X (rSlL K) := by subst hK; exact sl_list
theorem inK (hK : X.K = K := by rfl) : OpR X (compareOp .In) (rIn K false) := by subst hK; exact op_in_seq
theorem ninK (hK : X.K = K := by rfl) : OpR X (compareOp .NotIn) (rIn K true) := by subst hK; exact op_notIn_seq
theorem eqDK (hu : X.A.units + 64 < cLine) (hK : X.K = K := by rfl) : OpR X (compareOp .Eq) (rEqD K) := by subst hK; exact op_eqD hu
theorem neDK (hu : X.A.units + 64 < cLine) (hK : X.K = K := by rfl) : OpR X (compareOp .NotEq) (rNeD K) := by subst hK; exact op_neD hu
theorem piLK {tg l : Expr} {tl : TE} (hl : PE X l tl) (hK : X.K = K := by rfl) : PI X tg l (iList K tl) := by subst hK; exact pi_list hl
theorem piTK {tg l : Expr} {tl : TE} (hl : PE X l tl) (hK : X.K = K := by rfl) : PI X tg l (iTup K tl) := by subst hK; exact pi_tup hl
theorem piEK {e : Expr} {ta : TA} {p pos tpos : Pos} {elts : List Expr} {kk : Nat} (hg : Gl X "enumerate") (hm : X.mg "enumerate" = none) (ha : PA X [e] ta) (hK : X.K = K := by rfl) (hs : starEach [e] X.env = [(false, eval e X.env)] := by rfl) :
    PI X (.Tuple elts kk tpos) (.Call (.Name "enumerate" p) [e] [] pos) (iEnum K ta) := by subst hK; exact pi_enum hg hm ha hs
theorem piZK {e e2 : Expr} {ta : TA} {p pos tpos : Pos} {elts : List Expr} {kk : Nat} (hg : Gl X "zip") (hm : X.mg "zip" = none) (ha : PA X [e, e2] ta) (hK : X.K = K := by rfl)
    (hs : starEach [e, e2] X.env = (false, eval e X.env) :: starEach [e2] X.env := by rfl) (hpl : (backTo pos (starEach [e2] X.env)).any (·.1) = false := by rfl) :
    PI X (.Tuple elts kk tpos) (.Call (.Name "zip" p) [e, e2] [] pos) (iZip K ta) := by subst hK; exact pi_zip hg hm ha hs hpl
theorem fldK {e : Expr} {ta : TE} {f : Str} {pos : Pos} (he : PE X e ta) (hb : attributeBase e f X.env (eval e X.env) = eval e X.env) (hK : X.K = K := by rfl) : PE X (.Attribute e f pos) (tFld K ta f) := by subst hK; exact pe_fld he hb
theorem sfldK {o value : Expr} {ta tv : TE} {f : Str} {pos pos' : Pos} (ha : PE X o ta) (hv : PE X value tv) (hs : swapsWith value (some (.Attribute o f pos')) pos.line X.env = pure false) (hK : X.K = K := by rfl) : PS X (.Assign [.Attribute o f pos'] value pos) (sFld K ta tv f) := by subst hK; exact ps_fld ha hv hs
theorem gtK {es : List Expr} {k : Nat} {t : TGs} {n : Nat} {pos : Pos} (hc : X.calm = true) (h : PGs X es t) (hK : X.K = K := by rfl)
    (hn : (assignEach es X.env).length = n := by rfl) (hst : (assignEach es X.env).findIdx? (·.1) = none := by rfl) : PG X (.Tuple es k pos) (gTup K n t) := by subst hK; exact pg_tup hc h hn hst
theorem bmK {o e : Expr} {es : List Expr} {to : TE} {t : TA} {name : Str} {apos cpos : Pos} {T id : String} {r : V → List V → Hp → VK → Prop}
    (pa : PlainAttrs T) (slot : Slot T name id) (hty : typeOf (.builtin id) = pure (.type "method_descriptor")) (hm : MtR X id r) (ho : PE X o to) (ha : PA X (e :: es) t) (hK : X.K = K := by rfl)
    (hbase : attributeBase o name X.env (eval o X.env) = eval o X.env := by rfl)
    (hfew : ((backTo cpos (starEach (e :: es) X.env)).all (fun x => !x.1) && (backToKw cpos (keywordEach [] X.env)).all (fun x => x.1.isSome)
      && decide ((e :: es).length + ([] : List Keyword).length + (if ([] : List Keyword).isEmpty then 0 else 1) < 30)) = true := by rfl)
    (hline : (apos.endLine == cpos.line) = true := by rfl) (hs : starEach (e :: es) X.env = (false, eval e X.env) :: starEach es X.env := by rfl) (hplain : (backTo cpos (starEach es X.env)).any (·.1) = false := by rfl) :
    PE X (.Call (.Attribute o name apos) (e :: es) [] cpos) (tBM K T r to t) := by subst hK; exact pe_bm pa slot hty hm ho ha hbase hfew hline hs hplain
theorem bm0K {o : Expr} {to : TE} {name : Str} {apos cpos : Pos} {T id : String} {r : V → List V → Hp → VK → Prop}
    (pa : PlainAttrs T) (slot : Slot T name id) (hty : typeOf (.builtin id) = pure (.type "method_descriptor")) (hm : MtR X id r) (ho : PE X o to) (hK : X.K = K := by rfl)
    (hbase : attributeBase o name X.env (eval o X.env) = eval o X.env := by rfl) (hline : (apos.endLine == cpos.line) = true := by rfl) : PE X (.Call (.Attribute o name apos) [] [] cpos) (tBM0 K T r to) := by subst hK; exact pe_bm0 pa slot hty hm ho hbase hline
theorem ostK {o e : Expr} {to te : TE} {f : Str} {p' pos : Pos} (ho : PE X o to) (he : PE X e te) (hK : X.K = K := by rfl) (hs : swapsWith e (some (.Attribute o f p')) pos.line X.env = pure false := by rfl) : PS X (.Assign [.Attribute o f p'] e pos) (tOst K f to te) := by subst hK; exact ps_ost ho he hs
end
def rInt1 : List V → Hp → VK → Prop := fun xs H Q => (∃ i, xs = [.int i] ∧ Q (.int i) H) ∨ ∃ k, xs = [.bl k] ∧ Q (.int (if k then 1 else 0)) H
theorem cr_int1 {X : Cx} : CallR X (.type "int") rInt1 := call_int1
def rMax2 : List V → Hp → VK → Prop := fun xs H Q => ∃ i j, xs = [.int i, .int j] ∧ Q (.int (if j > i then j else i)) H
theorem cr_max2 {X : Cx} (hc : X.calm = true) : CallR X (.builtin "max") rMax2 := call_max2 hc
def rOrd : List V → Hp → VK → Prop := fun xs H Q => ∃ x, xs = [.str x] ∧ x.length = 1 ∧ Q (.int (x.cps.getD 0 0 : Nat)) H
theorem cr_ord {X : Cx} : CallR X (.builtin "ord") rOrd := call_ord
def rStrI : List V → Hp → VK → Prop := fun xs H Q => ∃ i, xs = [.int i] ∧ i.natAbs.log2 < 1920 ∧ Q (.str (toString i)) H
theorem cr_strI {X : Cx} : CallR X (.type "str") rStrI := call_str_int
def rIsN : R2 := fun x y H Q => y = .non ∧ Q (.bl (decide (x = .non))) H
theorem op_isN1 {X : Cx} : OpR X (compareOp .Is) rIsN := op_isN
def rNotN : R2 := fun x y H Q => y = .non ∧ Q (.bl (!decide (x = .non))) H
theorem op_notN1 {X : Cx} : OpR X (compareOp .IsNot) rNotN := op_notN
/-! ### o.m() within a try -/
def tMethS (C : Addr) (m : Str) (sp : Sp) (E : L2.St → XK) (ta : TE) (t : TA) : TE := fun σ H Q => ta σ H fun x H1 => ∃ a dx fs, x = .ref a ∧ H1 a = some (.ins C dx fs) ∧ fs.lookup m = none ∧ t σ H1 fun vs H2 => sp (x :: vs) H2 Q (E σ)
theorem pe_meth0S {X : Cx} {CX : CXT} {k : Nat} {f C : Addr} {fd : FuncData} {ps : List Str} {sp : Sp} {E : L2.St → XK} {m : Str} {pos apos : Pos} {o : Expr} {ta : TE} {pl : Sem Bool} (he : PE X o ta) (c : Cls X.K C) (hm : Meth X.K C m f)
    (F : FnOk X.prog X.w X.K X.mg X.base CX k f fd ps sp) (hr : Room k X.A) (hb : Binds X.K fd ps []) (hx : ∀ σ, PassesAt CX X σ (E σ))
    (ht : eval (.Call (.Attribute o m apos) [] [] pos) X.env = (do
      let ov ← eval o X.env
      standAt apos.atName
      let (f, first) ← holding [ov] (getMethod ov m pl)
      callWith pos f first (backTo pos (starEach [] X.env)) (backToKw pos (keywordEach [] X.env))) := by rfl) :
    PE X (.Call (.Attribute o m apos) [] [] pos) (tMethS C m sp E ta tNil) := by
  refine ⟨fun pins s σ H Q I h => ?_⟩
  refine PySem.W.methodCall_KW (pl := pl) (thn (he.run pins s σ H _ I h) fun u s1 ⟨x, H1, I1, rx, a, dx, fs, ex, ea, l, q⟩ => ?_) ht
  subst ex
  obtain rfl : u = Value.ref a := rx
  refine getmeth_ok I1 ea c hm l ?_
  exact PySem.W.callWith_K0 (first := [.ref a]) I1.kIn hm.kp (run_fnS (us := [.ref a]) (vs := [.ref a]) F hr hb (hx σ) I1 (.cons rfl .nil) q)
/-! ### a dict against the empty one -/
def rEqE : R2 := fun x y H Q => ∃ a b kvs, x = .ref a ∧ y = .ref b ∧ H a = some (.dK kvs) ∧ H b = some (.dK []) ∧ Q (.bl kvs.isEmpty) H
theorem op_eqDict {X : Cx} (hu : X.A.units + 64 < cLine) : OpR X (compareOp .Eq) rEqE := by
  intro pins s σ H x y v u Q I rx ry h
  obtain ⟨a, b, kvs, rfl, rfl, ha, hb, q⟩ := h
  cases (show v = Value.ref a from rx)
  cases (show u = Value.ref b from ry)
  obtain ⟨_, ya, va, ra, da⟩ := (show ObjOk X.prog X.w H s.heap a (.dK kvs) from I.hok a _ ha)
  obtain ⟨_, yb, vb, rb, db⟩ := (show ObjOk X.prog X.w H s.heap b (.dK []) from I.hok b _ hb)
  have hb0 : vb.length = 0 := rb.length.symm
  have hvb : vb = [] := List.length_eq_zero_iff.mp hb0
  subst hvb
  refine PySem.W.rcP_dicts (knd := mixKind X.prog X.w) (r := true) ya yb da db (by omega) (fun e => ?_) _ _ ?_
  · have : va = [] := List.length_eq_zero_iff.mp e
    rw [this]
    exact .nil
  · refine ⟨.bl _, H, I, ?_, q⟩
    have e : kvs.length = va.length := ra.length
    show Value.bool (va.length == 0 && true) = Value.bool kvs.isEmpty
    rw [← e, Bool.and_true]
    cases kvs <;> rfl
theorem u_eqE {H : Hp} {Q : VK} {a b : Addr} {kvs : List (Key × V)} (ha : H a = some (.dK kvs)) (hb : H b = some (.dK [])) (h : Q (.bl kvs.isEmpty) H) : rEqE (.ref a) (.ref b) H Q := ⟨a, b, kvs, rfl, rfl, ha, hb, h⟩
/-! ### heaps -/
theorem same_new {H : Hp} {p : Addr} {o : HO} (h : H p = none) : Same H (upd H p o) := fun a u e => by
  rw [upd_ne (ne_of_none e h)]
  exact e
theorem same_mut {H H' : Hp} {p : Addr} {o : HO} (e : Same H H') (h : H p = none) : Same H (upd H' p o) := fun a u ha => by
  rw [upd_ne (ne_of_none ha h)]
  exact e a u ha
theorem same_then {H H' : Hp} {p : Addr} {o : HO} (e : Same H H') (h : H' p = none) : Same H (upd H' p o) := e.trans (same_new h)
theorem same_rd {H H' : Hp} {a : Addr} {u : HO} (e : Same H H') (h : Rd H a u) : Rd H' a u := by
  rcases h with h | ⟨o, h⟩
  · exact Or.inl (e a _ h)
  · exact Or.inr ⟨o, e a _ h⟩
theorem same_l {K : PySem.W.Frag} {H H' : Hp} {a : Addr} {xs : List V} (e : Same H H') (h : SqL K H a xs) : SqL K H' a xs := e.seq h
theorem same_t {K : PySem.W.Frag} {H H' : Hp} {a : Addr} {xs : List V} (e : Same H H') (h : SqT K H a xs) : SqT K H' a xs := by
  rcases h with h | h
  · exact Or.inl (same_rd e h)
  · exact Or.inr h
theorem size_small {n : Nat} (h : n ≤ 1000000) : n ≤ sizeLine := Nat.le_trans h (by decide)
theorem size_less {n : Nat} (h : n < 1000000) : n < sizeLine := Nat.lt_of_lt_of_le h (by decide)
/-! ### steps of a reading -/
section
variable {σ : L2.St} {H : Hp} {K : PySem.W.Frag} {nx : L2.St → Hp → Prop} {rt Q : VK} {bk ct : L2.St → Hp → Prop} {t u : TS} {te ta tb tc : TE} {tt tt2 : TT} {g : TG} {v x y : V} {r r2 : R2} {QT : Bool → Hp → Prop} {QA : List V → Hp → Prop}
theorem u_seq (h : t ⟨u ⟨nx, rt, bk, ct⟩, rt, bk, ct⟩ σ H) : tSeq t u ⟨nx, rt, bk, ct⟩ σ H := h
theorem u_if (h : tt σ H fun b H1 => if b = true then t ⟨nx, rt, bk, ct⟩ σ H1 else u ⟨nx, rt, bk, ct⟩ σ H1) : tIfS tt t u ⟨nx, rt, bk, ct⟩ σ H := h
theorem u_next (h : nx σ H) : tNext ⟨nx, rt, bk, ct⟩ σ H := h
theorem u_ret (h : te σ H rt) : tRet te ⟨nx, rt, bk, ct⟩ σ H := h
theorem u_retN (h : rt .non H) : tRetN ⟨nx, rt, bk, ct⟩ σ H := h
theorem u_asg (h : te σ H fun x H1 => g x σ H1 nx) : tAsg te g ⟨nx, rt, bk, ct⟩ σ H := h
theorem u_drop (h : te σ H fun _ H1 => nx σ H1) : tDrop te ⟨nx, rt, bk, ct⟩ σ H := h
theorem u_gn {i : Nat} (h : nx (σ.set i (some v)) H) : gName i v σ H nx := h
theorem u_var {i : Nat} (e : σ[i]? = some (some v)) (h : Q v H) : tVar i σ H Q := ⟨v, e, h⟩
theorem u_c (h : Q v H) : tC v σ H Q := h
theorem u_op (h : ta σ H fun x H1 => tb σ H1 fun y H2 => r x y H2 Q) : tOp r ta tb σ H Q := h
theorem u_un {r : V → Hp → VK → Prop} (h : ta σ H fun x H1 => r x H1 Q) : tUn r ta σ H Q := h
theorem u_U {f : Int → V} {i : Int} (h : Q (f i) H) : rU f (.int i) H Q := ⟨i, rfl, h⟩
theorem u_I0 {f : Int → Int → V} {i j : Int} (h : Q (f i j) H) : rI0 f (.int i) (.int j) H Q := ⟨i, j, rfl, rfl, h⟩
theorem u_I {C : Int → Int → Prop} {f : Int → Int → V} {i j : Int} (c : C i j) (h : Q (f i j) H) : rI C f (.int i) (.int j) H Q := ⟨i, j, rfl, rfl, c, h⟩
theorem u_eqI {i j : Int} (h : Q (.bl (decide (i = j))) H) : rEq (.int i) (.int j) H Q := ⟨rfl, by
  have e : decide (V.int i = V.int j) = decide (i = j) := by
    by_cases c : i = j
    · subst c; simp
    · rw [decide_eq_false c, decide_eq_false (fun z => c (V.int.inj z))]
  rw [e]
  exact h⟩
theorem u_neI {i j : Int} (h : Q (.bl (decide (i ≠ j))) H) : rNe (.int i) (.int j) H Q := ⟨rfl, by
  have e : (!decide (V.int i = V.int j)) = decide (i ≠ j) := by
    by_cases c : i = j
    · subst c; simp
    · rw [decide_eq_true (show i ≠ j from c), decide_eq_false (fun z => c (V.int.inj z))]; rfl
  rw [e]
  exact h⟩
theorem u_test (h : te σ H fun x H' => ∃ k, x = .bl k ∧ QT k H') : tTest te σ H QT := h
theorem u_tB (h : te σ H fun x H' => ∃ k, x = .bl k ∧ QT k H') : tB te σ H QT := h
theorem u_bl {k : Bool} {P : Bool → Prop} (h : P k) : ∃ k', V.bl k = .bl k' ∧ P k' := ⟨k, rfl, h⟩
theorem u_and (h : tt σ H fun c H1 => if c = true then tt2 σ H1 QT else QT false H1) : tAnd tt tt2 σ H QT := h
theorem u_or (h : tt σ H fun c H1 => if c = true then QT true H1 else tt2 σ H1 QT) : tOr tt tt2 σ H QT := h
theorem u_not (h : tt σ H fun c H1 => QT (!c) H1) : tNot tt σ H QT := h
theorem u_ifx (h : tt σ H fun c H1 => if c = true then ta σ H1 Q else tb σ H1 Q) : tIf tt ta tb σ H Q := h
theorem u_chain (h : ta σ H fun x H1 => tb σ H1 fun y H2 => r x y H2 fun z H3 => ∃ k, z = .bl k ∧ (if k = true then tc σ H3 fun w H4 => r2 y w H4 Q else Q (.bl false) H3)) : tChain r r2 ta tb tc σ H Q := h
theorem u_nil (h : QA [] H) : tNil σ H QA := h
theorem u_cons {tr : TA} (h : te σ H fun x H1 => tr σ H1 fun xs H2 => QA (x :: xs) H2) : tCons te tr σ H QA := h
theorem u_tup {tr : TA} (h : tr σ H fun xs H1 => xs.length ≤ sizeLine ∧ ∀ p, H1 p = none → Q (.ref p) (upd H1 p (.tup xs))) : tTup tr σ H Q := h
theorem u_lst {tr : TA} (h : tr σ H fun xs H1 => xs.length ≤ sizeLine ∧ ∀ p, H1 p = none → Q (.ref p) (upd H1 p (.lst xs))) : tLst tr σ H Q := h
theorem u_cb {rr : List V → Hp → VK → Prop} {tr : TA} (h : tr σ H fun vs H1 => rr vs H1 Q) : tCB rr tr σ H Q := h
theorem u_call {sp : Sp} {dvs : List V} {E : XK} {tr : TA} (h : tr σ H fun vs H1 => sp (vs ++ dvs) H1 Q E) : tCall sp dvs E tr σ H Q := h
theorem u_lenL {p : Addr} {ys : List V} (hs : SqL K H p ys) (h : Q (.int ys.length) H) : rLen K [.ref p] H Q := ⟨p, ys, rfl, Or.inl hs, h⟩
theorem u_lenT {p : Addr} {ys : List V} (hs : SqT K H p ys) (h : Q (.int ys.length) H) : rLen K [.ref p] H Q := ⟨p, ys, rfl, Or.inr hs, h⟩
theorem u_listL {p : Addr} {ys : List V} (hs : SqL K H p ys) (h : ∀ l, H l = none → Q (.ref l) (upd H l (.lst ys))) : rListS K [.ref p] H Q := ⟨p, ys, rfl, Or.inl hs, h⟩
theorem u_listT {p : Addr} {ys : List V} (hs : SqT K H p ys) (h : ∀ l, H l = none → Q (.ref l) (upd H l (.lst ys))) : rListS K [.ref p] H Q := ⟨p, ys, rfl, Or.inr hs, h⟩
theorem u_tupL {p : Addr} {ys : List V} (hs : SqL K H p ys) (h : ∀ l, H l = none → Q (.ref l) (upd H l (.tup ys))) : rTupS K [.ref p] H Q := ⟨p, ys, rfl, Or.inl ⟨hs, h⟩⟩
theorem u_intB {k : Bool} (h : Q (.int (if k then 1 else 0)) H) : rInt1 [.bl k] H Q := Or.inr ⟨k, rfl, h⟩
theorem u_slL {p : Addr} {xs : List V} {lo hi : Option Int} (hs : SqL K H p xs) (h : ∀ l, H l = none → Q (.ref l) (upd H l (.lst (cutV xs lo hi)))) : rSlL K (.ref p) lo hi H Q := ⟨p, xs, rfl, hs, h⟩
theorem u_max {i j : Int} (h : Q (.int (if j > i then j else i)) H) : rMax2 [.int i, .int j] H Q := ⟨i, j, rfl, h⟩
theorem u_ixL {p : Addr} {xs : List V} {i : Int} (hs : SqL K H p xs) (e : atI xs i = some v) (h : Q v H) : rIxL K (.ref p) (.int i) H Q := ⟨p, xs, i, v, rfl, rfl, hs, e, h⟩
theorem u_ixT {p : Addr} {xs : List V} {i : Int} (hs : SqT K H p xs) (e : atI xs i = some v) (h : Q v H) : rIxT K (.ref p) (.int i) H Q := ⟨p, xs, i, v, rfl, rfl, hs, e, h⟩
theorem u_sl {rs : V → Option Int → Option Int → Hp → VK → Prop} {tl th : TO} (h : te σ H fun x H1 => tl σ H1 fun l H2 => th σ H2 fun u H3 => rs x l u H3 Q) : tSl rs te tl th σ H Q := h
theorem u_part {QO : Option Int → Hp → Prop} (h : te σ H fun x H1 => ∃ i, x = .int i ∧ QO (some i) H1) : tPart te σ H QO := h
theorem u_nopart {QO : Option Int → Hp → Prop} (h : QO none H) : tNoPart σ H QO := h
theorem u_pint {i : Int} {P : Int → Prop} (h : P i) : ∃ i', V.int i = .int i' ∧ P i' := ⟨i, rfl, h⟩
theorem u_in {p : Addr} {xs : List V} (hs : SqL K H p xs ∨ SqT K H p xs) (fx : flatV x = true) (fl : xs.all flatV = true) (h : Q (.bl (inV x xs)) H) : rIn K false x (.ref p) H Q := ⟨p, xs, rfl, hs, fx, fl, h⟩
theorem u_nin {p : Addr} {xs : List V} (hs : SqL K H p xs ∨ SqT K H p xs) (fx : flatV x = true) (fl : xs.all flatV = true) (h : Q (.bl (!inV x xs)) H) : rIn K true x (.ref p) H Q := ⟨p, xs, rfl, hs, fx, fl, h⟩
theorem u_andV (h : ta σ H fun x H1 => ∃ c, x = .bl c ∧ if c = true then tb σ H1 Q else Q (.bl false) H1) : tAndV ta tb σ H Q := h
theorem u_orV (h : ta σ H fun x H1 => ∃ c, x = .bl c ∧ if c = true then Q (.bl true) H1 else tb σ H1 Q) : tOrV ta tb σ H Q := h
theorem u_notV (h : ta σ H fun x H1 => ∃ c, x = .bl c ∧ Q (.bl (!c)) H1) : tNotV ta σ H Q := h
theorem u_par {i j : Nat} {tr : TA} (h : tr σ H fun vs H1 => ∃ v w, vs = [v, w] ∧ nx ((σ.set i (some v)).set j (some w)) H1) : tPar i j tr ⟨nx, rt, bk, ct⟩ σ H := h
theorem u_vw {P : V → V → Prop} {w : V} (h : P v w) : ∃ v' w', [v, w] = [v', w'] ∧ P v' w' := ⟨v, w, rfl, h⟩
theorem u_vwz {P : V → V → V → Prop} {w z : V} (h : P v w z) : ∃ v' w' z', [v, w, z] = [v', w', z'] ∧ P v' w' z' := ⟨v, w, z, rfl, h⟩
theorem u_par3 {i j l : Nat} {tr : TA} (h : tr σ H fun vs H1 => ∃ u v w, vs = [u, v, w] ∧ nx (((σ.set i (some u)).set j (some v)).set l (some w)) H1) : tPar3 i j l tr ⟨nx, rt, bk, ct⟩ σ H := h
theorem u_app {tr : TA} (h : ta σ H fun x H1 => tyV K "list" x H1 ∧ tr σ H1 fun xs H2 => rAppend x xs H2 Q) : tBM K "list" rAppend ta tr σ H Q := h
theorem u_append {l : Addr} {xs : List V} (hl : H l = some (.lst xs)) (hz : xs.length < sizeLine) (h : Q .non (upd H l (.lst (xs ++ [y])))) : rAppend (.ref l) [y] H Q := ⟨l, xs, y, rfl, rfl, hl, hz, h⟩
theorem u_lty {l : Addr} {xs : List V} (hl : H l = some (.lst xs)) : tyV K "list" (.ref l) H := Or.inl ⟨rfl, xs, Or.inl (Or.inl hl)⟩
end
/-! ### loops -/
section
variable {σ : L2.St} {H : Hp} {K : PySem.W.Frag} {nx : L2.St → Hp → Prop} {rt Q : VK} {bk ct : L2.St → Hp → Prop} {tb : TS} {g : TG} {tt : TT} {te : TE}
def ForJ (J : It) (g : TG) (tb : TS) (D : Ends) (σ : L2.St) (H : Hp) : Prop := ∃ W : Nat → Nat → L2.St → Hp → Prop, (∃ m, W 0 m σ H) ∧ ∀ i m σ H, W i m σ H →
  (J.stop i H ∧ D.nx σ H) ∨ (J.go i H ∧ ∃ N : L2.St → Hp → Prop, (∀ σ' H', N σ' H' → ∃ m', m' < m ∧ W (i + 1) m' σ' H') ∧ ∀ x H', J.yld i H x H' → g x σ H' fun σ2 H2 => tb { D with nx := N, ct := N, bk := D.nx } σ2 H2)
theorem u_for {wi : TI} {D : Ends} (h : wi σ H fun J H1 => ForJ J g tb D σ H1) : tFor wi g tb D σ H := h
theorem u_iL {tl : TE} {R : It → Hp → Prop} (h : tl σ H fun x H1 => ∃ a, x = .ref a ∧ (∃ xs, SqL K H1 a xs) ∧ R (Itl K a) H1) : iList K tl σ H R := h
theorem u_iT {tl : TE} {R : It → Hp → Prop} (h : tl σ H fun x H1 => ∃ a, x = .ref a ∧ (∃ xs, SqT K H1 a xs) ∧ R (Itt K a) H1) : iTup K tl σ H R := h
theorem u_iR1 {ta : TA} {R : It → Hp → Prop} (h : ta σ H fun vs H1 => ∃ j : Int, vs = [.int j] ∧ -(2 ^ 62) ≤ j ∧ j < 2 ^ 62 ∧ R (Itr 0 j.toNat) H1) : iRng1 ta σ H R := h
theorem u_iR2 {ta : TA} {R : It → Hp → Prop} (h : ta σ H fun vs H1 => ∃ i j : Int, vs = [.int i, .int j] ∧ (-(2 ^ 62) ≤ i ∧ i < 2 ^ 62 ∧ -(2 ^ 62) ≤ j ∧ j < 2 ^ 62) ∧ R (Itr i (j - i).toNat) H1) : iRng2 ta σ H R := h
theorem u_iE {ta : TA} {R : It → Hp → Prop} (h : ta σ H fun vs H1 => ∃ a xs, vs = [.ref a] ∧ SqL K H1 a xs ∧ R (Ite K a) H1) : iEnum K ta σ H R := h
theorem u_iZ {ta : TA} {R : It → Hp → Prop} (h : ta σ H fun vs H1 => ∃ a b xs ys, vs = [.ref a, .ref b] ∧ SqL K H1 a xs ∧ SqL K H1 b ys ∧ R (Itz K a b) H1) : iZip K ta σ H R := h
theorem f_list {a : Addr} {xs : List V} (Pv : Nat → L2.St → Hp → Prop) (hs0 : SqL K H a xs) (h0 : Pv 0 σ H) (hl : ∀ i σ H, i ≤ xs.length → Pv i σ H → SqL K H a xs)
    (hs : ∀ i x σ H, xs[i]? = some x → Pv i σ H → g x σ H fun σ2 H2 => tb ⟨Pv (i + 1), rt, nx, Pv (i + 1)⟩ σ2 H2) (hd : ∀ σ H, Pv xs.length σ H → nx σ H) :
    ∃ a', V.ref a = .ref a' ∧ (∃ xs, SqL K H a' xs) ∧ ForJ (Itl K a') g tb ⟨nx, rt, bk, ct⟩ σ H := ⟨a, rfl, ⟨_, hs0⟩, for_list (K := K) (a := a) (xs := xs) (D := ⟨nx, rt, bk, ct⟩) Pv h0 hl hs hd⟩
theorem f_listI {a : Addr} {ns : List Int} (Pv : Nat → L2.St → Hp → Prop) (hs0 : SqL K H a (ns.map V.int)) (h0 : Pv 0 σ H) (hl : ∀ i σ H, i ≤ ns.length → Pv i σ H → SqL K H a (ns.map V.int))
    (hs : ∀ i z σ H, ns[i]? = some z → Pv i σ H → g (.int z) σ H fun σ2 H2 => tb ⟨Pv (i + 1), rt, nx, Pv (i + 1)⟩ σ2 H2) (hd : ∀ σ H, Pv ns.length σ H → nx σ H) :
    ∃ a', V.ref a = .ref a' ∧ (∃ xs, SqL K H a' xs) ∧ ForJ (Itl K a') g tb ⟨nx, rt, bk, ct⟩ σ H :=
  f_list Pv hs0 h0 (fun i σ H hi => hl i σ H (by rw [List.length_map] at hi; exact hi)) (fun i x σ H hx hp => by
    rw [List.getElem?_map] at hx
    obtain ⟨z, hz, rfl⟩ := Option.map_eq_some_iff.mp hx
    exact hs i z σ H hz hp) (fun σ H hp => hd σ H (by rw [List.length_map] at hp; exact hp))
theorem f_tup {a : Addr} {xs : List V} (Pv : Nat → L2.St → Hp → Prop) (hs0 : SqT K H a xs) (h0 : Pv 0 σ H) (hl : ∀ i σ H, i ≤ xs.length → Pv i σ H → SqT K H a xs)
    (hs : ∀ i x σ H, xs[i]? = some x → Pv i σ H → g x σ H fun σ2 H2 => tb ⟨Pv (i + 1), rt, nx, Pv (i + 1)⟩ σ2 H2) (hd : ∀ σ H, Pv xs.length σ H → nx σ H) :
    ∃ a', V.ref a = .ref a' ∧ (∃ xs, SqT K H a' xs) ∧ ForJ (Itt K a') g tb ⟨nx, rt, bk, ct⟩ σ H := ⟨a, rfl, ⟨_, hs0⟩, for_tup (K := K) (a := a) (xs := xs) (D := ⟨nx, rt, bk, ct⟩) Pv h0 hl hs hd⟩
theorem f_rng1 {n : Int} (Pv : Nat → L2.St → Hp → Prop) (b1 : -(2 ^ 62) ≤ n) (b2 : n < 2 ^ 62) (h0 : Pv 0 σ H)
    (hs : ∀ (i : Nat) σ H, i < n.toNat → Pv i σ H → g (.int i) σ H fun σ2 H2 => tb ⟨Pv (i + 1), rt, nx, Pv (i + 1)⟩ σ2 H2) (hd : ∀ σ H, Pv n.toNat σ H → nx σ H) :
    ∃ j : Int, [V.int n] = [.int j] ∧ -(2 ^ 62) ≤ j ∧ j < 2 ^ 62 ∧ ForJ (Itr 0 j.toNat) g tb ⟨nx, rt, bk, ct⟩ σ H :=
  ⟨n, rfl, b1, b2, for_range (lo := 0) (n := n.toNat) (D := ⟨nx, rt, bk, ct⟩) Pv h0 (fun i σ H hi hp => by rw [Int.zero_add]; exact hs i σ H hi hp) hd⟩
theorem f_rng2 {lo hi : Int} (Pv : Nat → L2.St → Hp → Prop) (b : -(2 ^ 62) ≤ lo ∧ lo < 2 ^ 62 ∧ -(2 ^ 62) ≤ hi ∧ hi < 2 ^ 62) (h0 : Pv 0 σ H)
    (hs : ∀ (i : Nat) σ H, i < (hi - lo).toNat → Pv i σ H → g (.int (lo + i)) σ H fun σ2 H2 => tb ⟨Pv (i + 1), rt, nx, Pv (i + 1)⟩ σ2 H2) (hd : ∀ σ H, Pv (hi - lo).toNat σ H → nx σ H) :
    ∃ i j : Int, [V.int lo, V.int hi] = [.int i, .int j] ∧ (-(2 ^ 62) ≤ i ∧ i < 2 ^ 62 ∧ -(2 ^ 62) ≤ j ∧ j < 2 ^ 62) ∧ ForJ (Itr i (j - i).toNat) g tb ⟨nx, rt, bk, ct⟩ σ H :=
  ⟨lo, hi, rfl, b, for_range (lo := lo) (n := (hi - lo).toNat) (D := ⟨nx, rt, bk, ct⟩) Pv h0 hs hd⟩
theorem f_enum {a : Addr} {xs : List V} (Pv : Nat → L2.St → Hp → Prop) (hs0 : SqL K H a xs) (h0 : Pv 0 σ H) (hl : ∀ i σ H, i ≤ xs.length → Pv i σ H → SqL K H a xs)
    (hs : ∀ (i : Nat) x σ H t, xs[i]? = some x → Pv i σ H → H t = none → g (.ref t) σ (upd H t (.tup [.int i, x])) fun σ2 H2 => tb ⟨Pv (i + 1), rt, nx, Pv (i + 1)⟩ σ2 H2) (hd : ∀ σ H, Pv xs.length σ H → nx σ H) :
    ∃ a' xs, [V.ref a] = [.ref a'] ∧ SqL K H a' xs ∧ ForJ (Ite K a') g tb ⟨nx, rt, bk, ct⟩ σ H :=
  ⟨a, xs, rfl, hs0, for_it (walk_enum (K := K) (a := a) (xs := xs)) (D := ⟨nx, rt, bk, ct⟩) Pv h0 hl (fun i x σ H H' _ hp y => by
    obtain ⟨t, u, v, rfl, ht, rfl, hu, hv⟩ := y
    obtain rfl : V.int (i : Nat) = u := Option.some.inj hu
    exact hs i v σ H t hv hp ht) hd⟩
theorem f_zip {a b : Addr} {xs ys : List V} (Pv : Nat → L2.St → Hp → Prop) (hxs : SqL K H a xs) (hys : SqL K H b ys) (e : xs.length = ys.length) (h0 : Pv 0 σ H) (hl : ∀ i σ H, i ≤ xs.length → Pv i σ H → SqL K H a xs ∧ SqL K H b ys)
    (hs : ∀ (i : Nat) x y σ H t, xs[i]? = some x → ys[i]? = some y → Pv i σ H → H t = none → g (.ref t) σ (upd H t (.tup [x, y])) fun σ2 H2 => tb ⟨Pv (i + 1), rt, nx, Pv (i + 1)⟩ σ2 H2) (hd : ∀ σ H, Pv xs.length σ H → nx σ H) :
    ∃ a' b' xs ys, [V.ref a, V.ref b] = [.ref a', .ref b'] ∧ SqL K H a' xs ∧ SqL K H b' ys ∧ ForJ (Itz K a' b') g tb ⟨nx, rt, bk, ct⟩ σ H :=
  ⟨a, b, xs, ys, rfl, hxs, hys, for_it (walk_zip (K := K) (a := a) (b := b) (xs := xs) (ys := ys) (n := xs.length) (by rw [e, Nat.min_self])) (D := ⟨nx, rt, bk, ct⟩) Pv h0 hl (fun i x σ H H' _ hp y => by
    obtain ⟨t, u, v, rfl, ht, rfl, hu, hv⟩ := y
    exact hs i u v σ H t hu hv hp ht) hd⟩
theorem f_while {c : TT} (W : Nat → L2.St → Hp → Prop) {m : Nat} (h0 : W m σ H)
    (hs : ∀ m σ H, W m σ H → c σ H fun b H1 => if b = true then ∃ N : L2.St → Hp → Prop, (∀ σ' H', N σ' H' → ∃ m', m' < m ∧ W m' σ' H') ∧ tb ⟨N, rt, nx, N⟩ σ H1 else nx σ H1) : tWhile c tb ⟨nx, rt, bk, ct⟩ σ H := ⟨W, ⟨m, h0⟩, hs⟩
theorem u_body {W : Nat → L2.St → Hp → Prop} {m : Nat} (h : tb ⟨fun σ' H' => ∃ m', m' < m ∧ W m' σ' H', rt, nx, fun σ' H' => ∃ m', m' < m ∧ W m' σ' H'⟩ σ H) :
    ∃ N : L2.St → Hp → Prop, (∀ σ' H', N σ' H' → ∃ m', m' < m ∧ W m' σ' H') ∧ tb ⟨N, rt, nx, N⟩ σ H := ⟨_, fun _ _ h => h, h⟩
/-! comprehensions -/
def LcJ (J : It) (g : TG) (tt : TT) (te : TE) (vs : List Nat) (σ : L2.St) (Q : VK) (H1 : Hp) : Prop := ∀ D, H1 D = none → ∃ W : Nat → Nat → Hp → Prop, (∃ m, W 0 m (upd H1 D (.lst []))) ∧ ∀ i m H, W i m H →
  (J.stop i H ∧ Q (.ref D) H) ∨ (J.go i H ∧ ∃ Nx : Hp → Prop, (∀ H', Nx H' → ∃ m', m' < m ∧ W (i + 1) m' H') ∧ ∀ x H', J.yld i H x H' → g x (wipe σ vs) H' fun σ2 H2 => wipe σ2 vs = wipe σ vs ∧ tt σ2 H2 fun b H3 =>
    if b = true then te σ2 H3 fun y H4 => ∃ acc, H4 D = some (.lst acc) ∧ acc.length < sizeLine ∧ Nx (upd H4 D (.lst (acc ++ [y]))) else Nx H3)
theorem u_lc {wi : TI} {vs : List Nat} (h : wi σ H fun J H1 => LcJ J g tt te vs σ Q H1) : tLc wi g tt te vs σ H Q := h
theorem u_item {D : Addr} {acc : List V} {y : V} {Nx : Hp → Prop} (hD : H D = some (.lst acc)) (hz : acc.length < sizeLine) (h : Nx (upd H D (.lst (acc ++ [y])))) : ∃ acc, H D = some (.lst acc) ∧ acc.length < sizeLine ∧ Nx (upd H D (.lst (acc ++ [y]))) := ⟨acc, hD, hz, h⟩
theorem u_yes {QT : Bool → Hp → Prop} (h : QT true H) : tYes σ H QT := h
/-- what a turn of a comprehension asks -/
abbrev LcT (g : TG) (tt : TT) (te : TE) (vs : List Nat) (σ : L2.St) (D : Addr) (x : V) (H : Hp) (Nx : Hp → Prop) : Prop := g x (wipe σ vs) H fun σ2 H2 => wipe σ2 vs = wipe σ vs ∧ tt σ2 H2 fun b H3 =>
    if b = true then te σ2 H3 fun y H4 => ∃ acc, H4 D = some (.lst acc) ∧ acc.length < sizeLine ∧ Nx (upd H4 D (.lst (acc ++ [y]))) else Nx H3
theorem c_list {a : Addr} {xs : List V} {vs : List Nat} (Pv : Addr → Nat → Hp → Prop) (hs0 : SqL K H a xs) (h0 : ∀ D, H D = none → Pv D 0 (upd H D (.lst []))) (hl : ∀ D i H', H D = none → i ≤ xs.length → Pv D i H' → SqL K H' a xs)
    (hs : ∀ D i x H', H D = none → xs[i]? = some x → Pv D i H' → LcT g tt te vs σ D x H' (Pv D (i + 1))) (hd : ∀ D H', H D = none → Pv D xs.length H' → Q (.ref D) H') :
    ∃ a', V.ref a = .ref a' ∧ (∃ xs, SqL K H a' xs) ∧ LcJ (Itl K a') g tt te vs σ Q H := ⟨a, rfl, ⟨_, hs0⟩, fun D hD => lc_list (K := K) (a := a) (xs := xs) (Pv D) (h0 D hD) (fun i H' hi hp => hl D i H' hD hi hp) (fun i x H' hx hp => hs D i x H' hD hx hp) (fun H' hp => hd D H' hD hp)⟩
theorem c_rng1 {n : Int} {vs : List Nat} (Pv : Addr → Nat → Hp → Prop) (b1 : -(2 ^ 62) ≤ n) (b2 : n < 2 ^ 62) (h0 : ∀ D, H D = none → Pv D 0 (upd H D (.lst [])))
    (hs : ∀ D (i : Nat) H', H D = none → i < n.toNat → Pv D i H' → LcT g tt te vs σ D (.int i) H' (Pv D (i + 1))) (hd : ∀ D H', H D = none → Pv D n.toNat H' → Q (.ref D) H') :
    ∃ j : Int, [V.int n] = [.int j] ∧ -(2 ^ 62) ≤ j ∧ j < 2 ^ 62 ∧ LcJ (Itr 0 j.toNat) g tt te vs σ Q H := ⟨n, rfl, b1, b2, fun D hD => lc_range (lo := 0) (n := n.toNat) (Pv D) (h0 D hD) (fun i H' hi hp => by rw [Int.zero_add]; exact hs D i H' hD hi hp) (fun H' hp => hd D H' hD hp)⟩
theorem c_enum {a : Addr} {xs : List V} {vs : List Nat} (Pv : Addr → Nat → Hp → Prop) (hs0 : SqL K H a xs) (h0 : ∀ D, H D = none → Pv D 0 (upd H D (.lst []))) (hl : ∀ D i H', H D = none → i ≤ xs.length → Pv D i H' → SqL K H' a xs)
    (hs : ∀ D (i : Nat) x H' t, H D = none → xs[i]? = some x → Pv D i H' → H' t = none → LcT g tt te vs σ D (.ref t) (upd H' t (.tup [.int i, x])) (Pv D (i + 1))) (hd : ∀ D H', H D = none → Pv D xs.length H' → Q (.ref D) H') :
    ∃ a' xs, [V.ref a] = [.ref a'] ∧ SqL K H a' xs ∧ LcJ (Ite K a') g tt te vs σ Q H := ⟨a, xs, rfl, hs0, fun D hD => lc_it (walk_enum (K := K) (a := a) (xs := xs)) (Pv D) (h0 D hD) (fun i H' hi hp => hl D i H' hD hi hp) (fun i x H1 H' _ hp y => by
    obtain ⟨t, u, v, rfl, ht, rfl, hu, hv⟩ := y
    obtain rfl : V.int (i : Nat) = u := Option.some.inj hu
    exact hs D i v H1 t hD hv hp ht) (fun H' hp => hd D H' hD hp)⟩
theorem c_zip {a b : Addr} {xs ys : List V} {vs : List Nat} (Pv : Addr → Nat → Hp → Prop) (hxs : SqL K H a xs) (hys : SqL K H b ys) (e : xs.length = ys.length) (h0 : ∀ D, H D = none → Pv D 0 (upd H D (.lst []))) (hl : ∀ D i H', H D = none → i ≤ xs.length → Pv D i H' → SqL K H' a xs ∧ SqL K H' b ys)
    (hs : ∀ D (i : Nat) x y H' t, H D = none → xs[i]? = some x → ys[i]? = some y → Pv D i H' → H' t = none → LcT g tt te vs σ D (.ref t) (upd H' t (.tup [x, y])) (Pv D (i + 1))) (hd : ∀ D H', H D = none → Pv D xs.length H' → Q (.ref D) H') :
    ∃ a' b' xs ys, [V.ref a, V.ref b] = [.ref a', .ref b'] ∧ SqL K H a' xs ∧ SqL K H b' ys ∧ LcJ (Itz K a' b') g tt te vs σ Q H := ⟨a, b, xs, ys, rfl, hxs, hys, fun D hD => lc_it (walk_zip (K := K) (a := a) (b := b) (xs := xs) (ys := ys) (n := xs.length) (by rw [e, Nat.min_self])) (Pv D) (h0 D hD) (fun i H' hi hp => hl D i H' hD hi hp) (fun i x H1 H' _ hp y => by
    obtain ⟨t, u, v, rfl, ht, rfl, hu, hv⟩ := y
    exact hs D i u v H1 t hD hu hv hp ht) (fun H' hp => hd D H' hD hp)⟩
/-! targets of several names -/
theorem u_gt {n : Nat} {t : TGs} {p : Addr} {xs : List V} (hs : SqT K H p xs) (hn : xs.length = n) (h : t xs σ H nx) : gTup K n t (.ref p) σ H nx := ⟨p, xs, rfl, hs, hn, h⟩
theorem u_gc {v : V} {r : List V} {t : TG} {u : TGs} (h : t v σ H fun σ' H' => u r σ' H' nx) : gCons t u (v :: r) σ H nx := ⟨v, r, rfl, h⟩
theorem u_g0 (h : nx σ H) : gNil [] σ H nx := ⟨rfl, h⟩
end
/-! ### objects -/
section
variable {σ : L2.St} {H : Hp} {K : PySem.W.Frag} {nx : L2.St → Hp → Prop} {rt Q : VK} {bk ct : L2.St → Hp → Prop} {te ta tv : TE} {v x y : V}
theorem u_dnewK (h : ∀ p, H p = none → Q (.ref p) (upd H p (.dK []))) : tDNewK σ H Q := h
theorem u_dnewT (h : ∀ p, H p = none → Q (.ref p) (upd H p (.dT []))) : tDNewT σ H Q := h
def RPut (y v x : V) (H3 : Hp) (N : Hp → Prop) : Prop := ∃ a H4, x = .ref a ∧ DPut H3 a y v H4 ∧ N H4
theorem u_dput {td ty : TE} (h : tv σ H fun v H1 => td σ H1 fun x H2 => ty σ H2 fun y H3 => RPut y v x H3 (nx σ)) : sDPut td ty tv ⟨nx, rt, bk, ct⟩ σ H := h
theorem u_putI {a : Addr} {kvs : List (Key × V)} {i : Int} {N : Hp → Prop} (h : H a = some (.dK kvs)) (hl : kvs.length < sizeLine) (q : N (upd H a (.dK (putK kvs (.inl i) v)))) : RPut (.int i) v (.ref a) H N := ⟨a, _, rfl, DPut.k (k := .inl i) h hl, q⟩
theorem u_putT {a b : Addr} {kvs : List (List Key × V)} {k : List Key} {N : Hp → Prop} (h : H a = some (.dT kvs)) (hb : H b = some (.tup (k.map kV))) (hl : kvs.length < sizeLine) (q : N (upd H a (.dT (putK kvs k v)))) : RPut (.ref b) v (.ref a) H N := ⟨a, _, rfl, DPut.t h hb hl, q⟩
def RGet (x y : V) (H2 : Hp) (Q : VK) : Prop := ∃ a v, x = .ref a ∧ DGet H2 a y (some v) ∧ Q v H2
theorem u_dget {td ty : TE} (h : td σ H fun x H1 => ty σ H1 fun y H2 => RGet x y H2 Q) : tDGet td ty σ H Q := h
theorem u_getI {a : Addr} {kvs : List (Key × V)} {i : Int} (h : H a = some (.dK kvs)) (hv : valV kvs (.inl i) = some v) (q : Q v H) : RGet (.ref a) (.int i) H Q := ⟨a, v, rfl, by have := DGet.k (k := .inl i) h; rw [hv] at this; exact this, q⟩
def RIn (y x : V) (H2 : Hp) (Q : VK) : Prop := ∃ a o, x = .ref a ∧ DGet H2 a y o ∧ Q (.bl o.isSome) H2
theorem u_din {td ty : TE} (h : ty σ H fun y H1 => td σ H1 fun x H2 => RIn y x H2 Q) : tDIn ty td σ H Q := h
theorem u_inT {a b : Addr} {kvs : List (List Key × V)} {k : List Key} (h : H a = some (.dT kvs)) (hb : H b = some (.tup (k.map kV))) (q : Q (.bl (valV kvs k).isSome) H) : RIn (.ref b) (.ref a) H Q := ⟨a, _, rfl, DGet.t h hb, q⟩
def RNin (y x : V) (H2 : Hp) (Q : VK) : Prop := ∃ a o, x = .ref a ∧ DGet H2 a y o ∧ Q (.bl (!o.isSome)) H2
theorem u_dnin {td ty : TE} (h : ty σ H fun y H1 => td σ H1 fun x H2 => RNin y x H2 Q) : tDNotIn ty td σ H Q := h
theorem u_ninI {a : Addr} {kvs : List (Key × V)} {i : Int} (h : H a = some (.dK kvs)) (q : Q (.bl (!(valV kvs (.inl i)).isSome)) H) : RNin (.int i) (.ref a) H Q := ⟨a, _, rfl, DGet.k (k := .inl i) h, q⟩
def RMethS (C : Addr) (m : Str) (sp : Sp) (E : XK) (t : TA) (σ : L2.St) (Q : VK) (x : V) (H1 : Hp) : Prop := ∃ a dx fs, x = .ref a ∧ H1 a = some (.ins C dx fs) ∧ fs.lookup m = none ∧ t σ H1 fun vs H2 => sp (x :: vs) H2 Q E
theorem u_methS {C : Addr} {m : Str} {sp : Sp} {E : L2.St → XK} {t : TA} (h : ta σ H fun x H1 => RMethS C m sp (E σ) t σ Q x H1) : tMethS C m sp E ta t σ H Q := h
def RMake (C : Addr) (sp : Sp) (dvs : List V) (E : XK) (Q : VK) (vs : List V) (H1 : Hp) : Prop := ∀ x dx, H1 x = none → H1 dx = none → dx ≠ x → sp (.ref x :: (vs ++ dvs)) (upd (upd H1 dx (.own x)) x (.ins C dx [])) (fun v H2 => v = .non ∧ Q (.ref x) H2) E
theorem u_make {C : Addr} {sp : Sp} {dvs : List V} {E : XK} {t : TA} (h : t σ H fun vs H1 => RMake C sp dvs E Q vs H1) : tMake C sp dvs E t σ H Q := h
def RXf (a : Addr) (cls : Value) (d : Option Addr) (C : Addr) (f : Str) (x : V) (H1 : Hp) (Q : VK) : Prop := x = .ref a ∧ cls = .ref C ∧ ∃ (dd : Addr) (fs : List (Str × V)) (v : V), d = some dd ∧ H1 dd = some (.xd fs) ∧ fs.lookup f = some v ∧ Q v H1
theorem u_xf {a : Addr} {cls : Value} {d : Option Addr} {C : Addr} {f : Str} (h : te σ H fun x H1 => RXf a cls d C f x H1 Q) : tXf a cls d C f te σ H Q := h
theorem u_listD {p : Addr} {kvs : List (Key × V)} (h : H p = some (.dK kvs)) (k : ∀ q, H q = none → Q (.ref q) (upd H q (.lst (kvs.map fun kv => kV kv.1)))) : rListD [.ref p] H Q := ⟨p, kvs, rfl, h, k⟩
def RFld (K : PySem.W.Frag) (f : Str) (x : V) (H1 : Hp) (Q : VK) : Prop := ∃ a C dx fs v, x = .ref a ∧ H1 a = some (.ins C dx fs) ∧ Cls K C ∧ NoAttr K C f ∧ fs.lookup f = some v ∧ Q v H1
theorem u_fld {f : Str} (h : ta σ H fun x H1 => RFld K f x H1 Q) : tFld K ta f σ H Q := h
theorem u_fldv {f : Str} {a C dx : Addr} {fs : List (Str × V)} (h1 : H a = some (.ins C dx fs)) (c : Cls K C) (n : NoAttr K C f) (l : fs.lookup f = some v) (h : Q v H) : RFld K f (.ref a) H Q := ⟨a, C, dx, fs, v, rfl, h1, c, n, l, h⟩
def RSet (K : PySem.W.Frag) (f : Str) (y x : V) (H2 : Hp) (N : Hp → Prop) : Prop := ∃ a C dx fs, x = .ref a ∧ H2 a = some (.ins C dx fs) ∧ Cls K C ∧ NoAttr K C f ∧ fs.length < 1000 ∧ N (upd H2 a (.ins C dx (putF f y fs)))
theorem u_sfld {f : Str} (h : tv σ H fun y H1 => ta σ H1 fun x H2 => RSet K f y x H2 (nx σ)) : sFld K ta tv f ⟨nx, rt, bk, ct⟩ σ H := h
theorem u_setv {f : Str} {a C dx : Addr} {fs : List (Str × V)} {N : Hp → Prop} (h1 : H a = some (.ins C dx fs)) (c : Cls K C) (n : NoAttr K C f) (l : fs.length < 1000) (h : N (upd H a (.ins C dx (putF f y fs)))) : RSet K f y (.ref a) H N := ⟨a, C, dx, fs, rfl, h1, c, n, l, h⟩
def RMeth (C : Addr) (m : Str) (sp : Sp) (dvs : List V) (E : XK) (t : TA) (σ : L2.St) (Q : VK) (x : V) (H1 : Hp) : Prop := ∃ a dx fs, x = .ref a ∧ H1 a = some (.ins C dx fs) ∧ fs.lookup m = none ∧ t σ H1 fun vs H2 => sp (x :: (vs ++ dvs)) H2 Q E
theorem u_meth {C : Addr} {m : Str} {sp : Sp} {dvs : List V} {E : XK} {t : TA} (h : ta σ H fun x H1 => RMeth C m sp dvs E t σ Q x H1) : tMeth C m sp dvs E ta t σ H Q := h
theorem u_methv {a C dx : Addr} {fs : List (Str × V)} {m : Str} {sp : Sp} {dvs : List V} {E : XK} {t : TA} (h1 : H a = some (.ins C dx fs)) (l : fs.lookup m = none) (h : t σ H fun vs H2 => sp (.ref a :: (vs ++ dvs)) H2 Q E) : RMeth C m sp dvs E t σ Q (.ref a) H := ⟨a, dx, fs, rfl, h1, l, h⟩
/-- raise .. -/
def tRz (W : WX) (t : L2.St → Hp → XK → Prop) : TS := fun _ σ H => t σ H fun cls d H' => W cls d σ H'
theorem ps_rz {X : Cx} {W : WX} {e : Expr} {t : L2.St → Hp → XK → Prop} {pos : Pos} (hc : X.calm = true) (tk : Takes X W) (he : PMk X e t) : PS X (.Raise (some e) none pos) (tRz W t) := ps_raise hc tk he
def RMk (C : Addr) (sp : Sp) (dvs : List V) (Q : XK) (vs : List V) (H1 : Hp) : Prop := vs.length ≤ 1000 ∧ ∀ a, H1 a = none → sp (.ref a :: (vs ++ dvs)) (upd H1 a (exo a C none))
  (fun v H2 => v = .non ∧ ∃ (d : Addr) (fs : List (Str × V)), H2 a = some (exo a C (some d)) ∧ H2 d = some (exd d fs) ∧ H1 d = none ∧ Q (.ref C) (some d) (upd (del H2 a) d (.xd fs))) (fun _ _ _ => False)
theorem u_rz {W : WX} {C : Addr} {sp : Sp} {dvs : List V} {tr : TA} {D : Ends} (h : tr σ H fun vs H1 => RMk C sp dvs (fun cls d H' => W cls d σ H') vs H1) : tRz W (tMkO C sp dvs tr) D σ H := h
end
theorem id_seq {t u : TS} {D : Ends} {σ : L2.St} {H : Hp} (h : tSeq t u D σ H) : tSeq t u D σ H := h
theorem id_if {tt : TT} {t u : TS} {D : Ends} {σ : L2.St} {H : Hp} (h : tIfS tt t u D σ H) : tIfS tt t u D σ H := h
/-- what is wanted behind a statement, told once -/
theorem u_cut {t : TS} {σ : L2.St} {H : Hp} {nx : L2.St → Hp → Prop} {rt : VK} {bk ct : L2.St → Hp → Prop} (P : L2.St → Hp → Prop) (h : ∀ nx' : L2.St → Hp → Prop, (∀ σ' H', P σ' H' → nx' σ' H') → t ⟨nx', rt, bk, ct⟩ σ H) (k : ∀ σ' H', P σ' H' → nx σ' H') : t ⟨nx, rt, bk, ct⟩ σ H := h nx k
/-- a test's answer told at once -/
theorem tt_cut {tt : TT} {σ : L2.St} {H : Hp} {QT : Bool → Hp → Prop} (b : Bool) (h : ∀ Q : Bool → Hp → Prop, (∀ H2 c, Same H H2 → c = b → Q c H2) → tt σ H Q) (k : ∀ H2, Same H H2 → QT b H2) : tt σ H QT := h QT fun H2 c s e => by rw [e]; exact k H2 s
theorem te_cut {te : TE} {σ : L2.St} {H : Hp} {Q : VK} (v : V) (h : ∀ Q : VK, (∀ H2 u, Same H H2 → u = v → Q u H2) → te σ H Q) (k : ∀ H2, Same H H2 → Q v H2) : te σ H Q := h Q fun H2 c s e => by rw [e]; exact k H2 s
theorem ite_d {c A B : Prop} [Decidable c] (h1 : c → A) (h2 : ¬ c → B) : if decide c = true then A else B := by
  by_cases h : c
  · rw [if_pos (decide_eq_true h)]; exact h1 h
  · rw [if_neg (by rw [decide_eq_false h]; exact Bool.false_ne_true)]; exact h2 h
theorem ite_b {b : Bool} {A B : Prop} (h1 : b = true → A) (h2 : b = false → B) : if b = true then A else B := by
  cases b with
  | true => exact h1 rfl
  | false => exact h2 rfl
theorem ite_t {A B : Prop} (h : A) : if true = true then A else B := h
theorem ite_f {A B : Prop} (h : B) : if false = true then A else B := h
theorem ite_nt {A B : Prop} (h : B) : if (!true) = true then A else B := h
theorem ite_nf {A B : Prop} (h : A) : if (!false) = true then A else B := h
theorem ite_nd {c A B : Prop} [Decidable c] (h1 : ¬ c → A) (h2 : c → B) : if (!decide c) = true then A else B := by
  by_cases h : c
  · rw [if_neg (by rw [decide_eq_true h]; exact Bool.false_ne_true)]; exact h2 h
  · rw [if_pos (by rw [decide_eq_false h]; rfl)]; exact h1 h
theorem ite_nb {b : Bool} {A B : Prop} (h1 : b = false → A) (h2 : b = true → B) : if (!b) = true then A else B := by
  cases b with
  | true => exact h2 rfl
  | false => exact h1 rfl
end Sr
/-! ## Characters: the program's reading of one, against the specification's -/
namespace Sm
open Fh
def furtherM (i : Int) : Int := if 32 ≤ i ∧ i ≤ 126 then 0 else if 194 ≤ i ∧ i ≤ 223 then 1 else if 224 ≤ i ∧ i ≤ 239 then 2 else if 240 ≤ i ∧ i ≤ 244 then 3 else -1
def leastM : Bytes → Int
  | [c] => if c.toNat = 194 ∨ c.toNat = 224 then 160 else if c.toNat = 240 then 144 else 128
  | _ => 128
def mostM : Bytes → Int
  | [c] => if c.toNat = 237 then 159 else if c.toNat = 244 then 143 else 191
  | [c, d] => if c.toNat = 239 ∧ d.toNat = 191 then 189 else 191
  | [_, d, e] => if d.toNat % 16 = 15 ∧ e.toNat = 191 then 189 else 191
  | _ => 191
def codeM : Bytes → Int
  | [] => 0
  | [c] => c.toNat
  | [c, d] => (c.toNat - 192) * 64 + d.toNat - 128
  | [c, d, e] => ((c.toNat - 224) * 64 + d.toNat - 128) * 64 + e.toNat - 128
  | [c, d, e, f] => (((c.toNat - 240) * 64 + d.toNat - 128) * 64 + e.toNat - 128) * 64 + f.toNat - 128
  | _ => 0
def charLoop : Nat → Bytes → Bytes → Except Nat Int
  | 0, got, _ => .ok (codeM got)
  | _ + 1, got, [] => .error got.length
  | m + 1, got, c :: r => if leastM got ≤ c.toNat ∧ (c.toNat : Int) ≤ mostM got then charLoop m (got ++ [c]) r else .error got.length
def charM : Bytes → Except Nat (Int × Nat)
  | [] => .error 0
  | c :: r => if furtherM c.toNat < 0 then .error 0 else match charLoop (furtherM c.toNat).toNat [c] r with
    | .ok v => .ok (v, (furtherM c.toNat).toNat + 1)
    | .error k => .error k
theorem byte_lt (c : UInt8) : c.toNat < 256 := c.toNat_lt
/-- one more byte: n bytes in all, behind k -/
theorem step21 {c d : Nat} (hc : 194 ≤ c ∧ c ≤ 223) (hd : d < 256) : (d / 64 = 2 ∧ mayBe 2 2 (c % 32 * 64 + d % 64) = true) ↔ ((if c = 194 ∨ c = 224 then (160 : Int) else if c = 240 then 144 else 128) ≤ d ∧ (d : Int) ≤ (if c = 237 then 159 else if c = 244 then 143 else 191)) := by
  unfold mayBe leastOf mostOf nextChar
  simp only [Nat.sub_self, Nat.pow_zero, Nat.mul_one, decide_eq_true_eq, Nat.reduceEqDiff, if_false, if_true, Nat.add_zero]
  rw [Nat.max_def, Nat.min_def]
  (repeat' split) <;> omega
theorem step31 {c d : Nat} (hc : 224 ≤ c ∧ c ≤ 239) (hd : d < 256) : (d / 64 = 2 ∧ mayBe 3 2 (c % 16 * 64 + d % 64) = true) ↔ ((if c = 194 ∨ c = 224 then (160 : Int) else if c = 240 then 144 else 128) ≤ d ∧ (d : Int) ≤ (if c = 237 then 159 else if c = 244 then 143 else 191)) := by
  unfold mayBe leastOf mostOf nextChar
  simp only [Nat.reduceSub, Nat.reducePow, decide_eq_true_eq, Nat.reduceEqDiff, if_false, if_true]
  rw [Nat.max_def, Nat.min_def]
  (repeat' split) <;> omega
theorem step41 {c d : Nat} (hc : 240 ≤ c ∧ c ≤ 244) (hd : d < 256) : (d / 64 = 2 ∧ mayBe 4 2 (c % 8 * 64 + d % 64) = true) ↔ ((if c = 194 ∨ c = 224 then (160 : Int) else if c = 240 then 144 else 128) ≤ d ∧ (d : Int) ≤ (if c = 237 then 159 else if c = 244 then 143 else 191)) := by
  unfold mayBe leastOf mostOf nextChar
  simp only [Nat.reduceSub, Nat.reducePow, decide_eq_true_eq, Nat.reduceEqDiff, if_false, if_true]
  rw [Nat.max_def, Nat.min_def]
  (repeat' split) <;> omega
theorem step32 {c d e : Nat} (hc : 224 ≤ c ∧ c ≤ 239) (hd : 128 ≤ d ∧ d ≤ 191) (h0 : c = 224 → 160 ≤ d) (h1 : c = 237 → d ≤ 159) (he : e < 256) :
    (e / 64 = 2 ∧ mayBe 3 3 ((c % 16 * 64 + d % 64) * 64 + e % 64) = true) ↔ ((128 : Int) ≤ e ∧ (e : Int) ≤ (if c = 239 ∧ d = 191 then 189 else 191)) := by
  unfold mayBe leastOf mostOf nextChar
  simp only [Nat.sub_self, Nat.pow_zero, Nat.mul_one, decide_eq_true_eq, Nat.reduceEqDiff, if_false, if_true, Nat.add_zero]
  rw [Nat.max_def, Nat.min_def]
  (repeat' split) <;> omega
theorem step42 {c d e : Nat} (hc : 240 ≤ c ∧ c ≤ 244) (hd : 128 ≤ d ∧ d ≤ 191) (h0 : c = 240 → 144 ≤ d) (h1 : c = 244 → d ≤ 143) (he : e < 256) :
    (e / 64 = 2 ∧ mayBe 4 3 ((c % 8 * 64 + d % 64) * 64 + e % 64) = true) ↔ ((128 : Int) ≤ e ∧ (e : Int) ≤ (if c = 239 ∧ d = 191 then 189 else 191)) := by
  unfold mayBe leastOf mostOf nextChar
  simp only [Nat.reduceSub, Nat.reducePow, decide_eq_true_eq, Nat.reduceEqDiff, if_false, if_true]
  rw [Nat.max_def, Nat.min_def]
  (repeat' split) <;> omega
theorem step43 {c d e f : Nat} (hc : 240 ≤ c ∧ c ≤ 244) (hd : 128 ≤ d ∧ d ≤ 191) (h0 : c = 240 → 144 ≤ d) (h1 : c = 244 → d ≤ 143) (he : 128 ≤ e ∧ e ≤ 191) (hf : f < 256) :
    (f / 64 = 2 ∧ mayBe 4 4 (((c % 8 * 64 + d % 64) * 64 + e % 64) * 64 + f % 64) = true) ↔ ((128 : Int) ≤ f ∧ (f : Int) ≤ (if d % 16 = 15 ∧ e = 191 then 189 else 191)) := by
  unfold mayBe leastOf mostOf nextChar
  simp only [Nat.sub_self, Nat.pow_zero, Nat.mul_one, decide_eq_true_eq, Nat.reduceEqDiff, if_false, if_true, Nat.add_zero]
  rw [Nat.max_def, Nat.min_def]
  (repeat' split) <;> omega
end Sm
namespace Sm
open Fh
/-- the first byte -/
theorem step0 {c : Nat} (hc : c < 256) : (lengthBy c = 0 ∨ mayBe (lengthBy c) 1 (headOf (lengthBy c) c) = false) ↔ furtherM c < 0 := by
  have h : ∀ c : Fin 256, (decide (lengthBy c.1 = 0) || !mayBe (lengthBy c.1) 1 (headOf (lengthBy c.1) c.1)) = decide (furtherM c.1 < 0) := by decide +kernel
  have h2 := h ⟨c, hc⟩
  simp only at h2
  have e : (decide (lengthBy c = 0) || !mayBe (lengthBy c) 1 (headOf (lengthBy c) c)) = true ↔ (lengthBy c = 0 ∨ mayBe (lengthBy c) 1 (headOf (lengthBy c) c) = false) := by simp
  rw [← e, h2, decide_eq_true_eq]
theorem len_further {c : Nat} (hc : c < 256) (h : ¬ furtherM c < 0) : (furtherM c).toNat + 1 = lengthBy c := by
  have h1 : ∀ c : Fin 256, (decide (furtherM c.1 < 0) || decide ((furtherM c.1).toNat + 1 = lengthBy c.1)) = true := by decide +kernel
  have h2 := h1 ⟨c, hc⟩
  simp only [Bool.or_eq_true, decide_eq_true_eq] at h2
  exact h2.resolve_left h
theorem further_cases {c : Int} (h : ¬ furtherM c < 0) : (furtherM c = 0 ∧ 32 ≤ c ∧ c ≤ 126) ∨ (furtherM c = 1 ∧ 194 ≤ c ∧ c ≤ 223) ∨ (furtherM c = 2 ∧ 224 ≤ c ∧ c ≤ 239) ∨ (furtherM c = 3 ∧ 240 ≤ c ∧ c ≤ 244) := by
  unfold furtherM at h ⊢
  (repeat' split) <;> first | omega | (exfalso; omega) | skip
  all_goals simp_all
  all_goals omega
theorem goOn_done {f n v : Nat} {b : Bytes} : goOn (f + 1) n n v b = .ok v := by simp [goOn]
theorem goOn_nil {f n k v : Nat} (h : k ≠ n) : goOn (f + 1) n k v [] = .error k := by simp [goOn, h]
theorem goOn_yes {f n k v : Nat} {c : UInt8} {r : Bytes} (h : k ≠ n) (y : c.toNat / 64 = 2 ∧ mayBe n (k + 1) (v * 64 + c.toNat % 64) = true) : goOn (f + 1) n k v (c :: r) = goOn f n (k + 1) (v * 64 + c.toNat % 64) r := by
  rw [goOn, if_neg h]
  exact if_pos y
theorem goOn_no {f n k v : Nat} {c : UInt8} {r : Bytes} (h : k ≠ n) (y : ¬ (c.toNat / 64 = 2 ∧ mayBe n (k + 1) (v * 64 + c.toNat % 64) = true)) : goOn (f + 1) n k v (c :: r) = .error k := by
  rw [goOn, if_neg h]
  exact if_neg y
def exI (x : Except Nat Nat) : Except Nat Int := match x with
  | .ok v => .ok v
  | .error k => .error k
theorem loop2 (c : UInt8) (r : Bytes) (hc : 194 ≤ c.toNat ∧ c.toNat ≤ 223) : charLoop 1 [c] r = exI (goOn 4 2 1 (c.toNat % 32) r) := by
  cases r with
  | nil => rw [goOn_nil (by decide)]; rfl
  | cons d r =>
    have hd := byte_lt d
    have st := step21 hc hd
    by_cases y : d.toNat / 64 = 2 ∧ mayBe 2 2 (c.toNat % 32 * 64 + d.toNat % 64) = true
    · rw [goOn_yes (by decide) y, goOn_done]
      have z := st.mp y
      have zT : leastM [c] ≤ d.toNat ∧ (d.toNat : Int) ≤ mostM [c] := z
      show (if leastM [c] ≤ d.toNat ∧ (d.toNat : Int) ≤ mostM [c] then charLoop 0 [c, d] r else .error 1) = _
      rw [if_pos zT]
      show Except.ok (codeM [c, d]) = Except.ok (((c.toNat % 32 * 64 + d.toNat % 64 : Nat)) : Int)
      congr 1
      show ((c.toNat : Int) - 192) * 64 + d.toNat - 128 = _
      omega
    · rw [goOn_no (by decide) y]
      have z := fun q => y (st.mpr q)
      show (if leastM [c] ≤ d.toNat ∧ (d.toNat : Int) ≤ mostM [c] then charLoop 0 [c, d] r else .error 1) = _
      exact if_neg z
theorem loop3 (c : UInt8) (r : Bytes) (hc : 224 ≤ c.toNat ∧ c.toNat ≤ 239) : charLoop 2 [c] r = exI (goOn 4 3 1 (c.toNat % 16) r) := by
  cases r with
  | nil => rw [goOn_nil (by decide)]; rfl
  | cons d r =>
    have hd := byte_lt d
    have st := step31 hc hd
    by_cases y : d.toNat / 64 = 2 ∧ mayBe 3 2 (c.toNat % 16 * 64 + d.toNat % 64) = true
    · rw [goOn_yes (by decide) y]
      have z := st.mp y
      have zT : leastM [c] ≤ d.toNat ∧ (d.toNat : Int) ≤ mostM [c] := z
      show (if leastM [c] ≤ d.toNat ∧ (d.toNat : Int) ≤ mostM [c] then charLoop 1 [c, d] r else .error 1) = _
      rw [if_pos zT]
      have z0 : 128 ≤ d.toNat ∧ d.toNat ≤ 191 := by omega
      have z1 : c.toNat = 224 → 160 ≤ d.toNat := fun q => by
        have := z.1; rw [if_pos (Or.inr q)] at this; omega
      have z2 : c.toNat = 237 → d.toNat ≤ 159 := fun q => by
        have := z.2; rw [if_pos q] at this; omega
      cases r with
      | nil => rw [goOn_nil (by decide)]; rfl
      | cons e r =>
        have st2 := step32 hc z0 z1 z2 (byte_lt e)
        by_cases y2 : e.toNat / 64 = 2 ∧ mayBe 3 3 ((c.toNat % 16 * 64 + d.toNat % 64) * 64 + e.toNat % 64) = true
        · rw [goOn_yes (by decide) y2, goOn_done]
          have w := st2.mp y2
          show (if leastM [c, d] ≤ e.toNat ∧ (e.toNat : Int) ≤ mostM [c, d] then charLoop 0 [c, d, e] r else .error 2) = _
          rw [if_pos (show leastM [c, d] ≤ e.toNat ∧ (e.toNat : Int) ≤ mostM [c, d] from w)]
          show Except.ok (codeM [c, d, e]) = Except.ok ((((c.toNat % 16 * 64 + d.toNat % 64) * 64 + e.toNat % 64 : Nat)) : Int)
          congr 1
          show (((c.toNat : Int) - 224) * 64 + d.toNat - 128) * 64 + e.toNat - 128 = _
          have w2 : (e.toNat : Int) ≤ 191 := Int.le_trans w.2 (by split <;> omega)
          have w1 := w.1
          omega
        · rw [goOn_no (by decide) y2]
          have w := fun q => y2 (st2.mpr q)
          show (if leastM [c, d] ≤ e.toNat ∧ (e.toNat : Int) ≤ mostM [c, d] then charLoop 0 [c, d, e] r else .error 2) = _
          exact if_neg w
    · rw [goOn_no (by decide) y]
      have z := fun q => y (st.mpr q)
      show (if leastM [c] ≤ d.toNat ∧ (d.toNat : Int) ≤ mostM [c] then charLoop 1 [c, d] r else .error 1) = _
      exact if_neg z
theorem loop4 (c : UInt8) (r : Bytes) (hc : 240 ≤ c.toNat ∧ c.toNat ≤ 244) : charLoop 3 [c] r = exI (goOn 4 4 1 (c.toNat % 8) r) := by
  cases r with
  | nil => rw [goOn_nil (by decide)]; rfl
  | cons d r =>
    have hd := byte_lt d
    have st := step41 hc hd
    by_cases y : d.toNat / 64 = 2 ∧ mayBe 4 2 (c.toNat % 8 * 64 + d.toNat % 64) = true
    · rw [goOn_yes (by decide) y]
      have z := st.mp y
      have zT : leastM [c] ≤ d.toNat ∧ (d.toNat : Int) ≤ mostM [c] := z
      show (if leastM [c] ≤ d.toNat ∧ (d.toNat : Int) ≤ mostM [c] then charLoop 2 [c, d] r else .error 1) = _
      rw [if_pos zT]
      have z0 : 128 ≤ d.toNat ∧ d.toNat ≤ 191 := by omega
      have z1 : c.toNat = 240 → 144 ≤ d.toNat := fun q => by
        have := z.1; rw [if_neg (by omega), if_pos q] at this; omega
      have z2 : c.toNat = 244 → d.toNat ≤ 143 := fun q => by
        have := z.2; rw [if_neg (by omega), if_pos q] at this; omega
      cases r with
      | nil => rw [goOn_nil (by decide)]; rfl
      | cons e r =>
        have st2 := step42 hc z0 z1 z2 (byte_lt e)
        by_cases y2 : e.toNat / 64 = 2 ∧ mayBe 4 3 ((c.toNat % 8 * 64 + d.toNat % 64) * 64 + e.toNat % 64) = true
        · rw [goOn_yes (by decide) y2]
          have w := st2.mp y2
          show (if leastM [c, d] ≤ e.toNat ∧ (e.toNat : Int) ≤ mostM [c, d] then charLoop 1 [c, d, e] r else .error 2) = _
          rw [if_pos (show leastM [c, d] ≤ e.toNat ∧ (e.toNat : Int) ≤ mostM [c, d] from w)]
          have w2 : (e.toNat : Int) ≤ 191 := Int.le_trans w.2 (by split <;> omega)
          have w0 : 128 ≤ e.toNat ∧ e.toNat ≤ 191 := ⟨by have := w.1; omega, by omega⟩
          cases r with
          | nil => rw [goOn_nil (by decide)]; rfl
          | cons f r =>
            have st3 := step43 hc z0 z1 z2 w0 (byte_lt f)
            by_cases y3 : f.toNat / 64 = 2 ∧ mayBe 4 4 (((c.toNat % 8 * 64 + d.toNat % 64) * 64 + e.toNat % 64) * 64 + f.toNat % 64) = true
            · rw [goOn_yes (by decide) y3, goOn_done]
              have x := st3.mp y3
              show (if leastM [c, d, e] ≤ f.toNat ∧ (f.toNat : Int) ≤ mostM [c, d, e] then charLoop 0 [c, d, e, f] r else .error 3) = _
              rw [if_pos (show leastM [c, d, e] ≤ f.toNat ∧ (f.toNat : Int) ≤ mostM [c, d, e] from x)]
              show Except.ok (codeM [c, d, e, f]) = Except.ok (((((c.toNat % 8 * 64 + d.toNat % 64) * 64 + e.toNat % 64) * 64 + f.toNat % 64 : Nat)) : Int)
              congr 1
              show ((((c.toNat : Int) - 240) * 64 + d.toNat - 128) * 64 + e.toNat - 128) * 64 + f.toNat - 128 = _
              have x2 : (f.toNat : Int) ≤ 191 := Int.le_trans x.2 (by split <;> omega)
              have x1 := x.1
              omega
            · rw [goOn_no (by decide) y3]
              have x := fun q => y3 (st3.mpr q)
              show (if leastM [c, d, e] ≤ f.toNat ∧ (f.toNat : Int) ≤ mostM [c, d, e] then charLoop 0 [c, d, e, f] r else .error 3) = _
              exact if_neg x
        · rw [goOn_no (by decide) y2]
          have w := fun q => y2 (st2.mpr q)
          show (if leastM [c, d] ≤ e.toNat ∧ (e.toNat : Int) ≤ mostM [c, d] then charLoop 1 [c, d, e] r else .error 2) = _
          exact if_neg w
    · rw [goOn_no (by decide) y]
      have z := fun q => y (st.mpr q)
      show (if leastM [c] ≤ d.toNat ∧ (d.toNat : Int) ≤ mostM [c] then charLoop 2 [c, d] r else .error 1) = _
      exact if_neg z
def exC (x : Except Nat (Nat × Nat)) : Except Nat (Int × Nat) := match x with
  | .ok v => .ok (v.1, v.2)
  | .error k => .error k
/-- THE CHARACTER -/
theorem charM_eq (b : Bytes) : charM b = exC (charHere b) := by
  cases b with
  | nil => rfl
  | cons c r =>
    have hc := byte_lt c
    simp only [charM, charHere]
    by_cases h : furtherM c.toNat < 0
    · rw [if_pos h, if_pos ((step0 hc).mpr h)]; rfl
    · rw [if_neg h, if_neg (fun q => h ((step0 hc).mp q))]
      have hl := len_further hc h
      rcases further_cases h with ⟨e, a, b⟩ | ⟨e, a, b⟩ | ⟨e, a, b⟩ | ⟨e, a, b⟩
      · rw [e] at hl ⊢
        rw [← hl]
        show (match charLoop 0 [c] r with | .ok v => Except.ok (v, 0 + 1) | .error k => .error k) = exC (match goOn 4 1 1 c.toNat r with | .ok v => Except.ok (v, 1) | .error k => .error k)
        rw [goOn_done]; rfl
      · rw [e] at hl ⊢
        rw [← hl]
        show (match charLoop 1 [c] r with | .ok v => Except.ok (v, 1 + 1) | .error k => .error k) = exC (match goOn 4 2 1 (c.toNat % 32) r with | .ok v => Except.ok (v, 2) | .error k => .error k)
        rw [loop2 c r (by omega)]
        cases goOn 4 2 1 (c.toNat % 32) r <;> rfl
      · rw [e] at hl ⊢
        rw [← hl]
        show (match charLoop 2 [c] r with | .ok v => Except.ok (v, 2 + 1) | .error k => .error k) = exC (match goOn 4 3 1 (c.toNat % 16) r with | .ok v => Except.ok (v, 3) | .error k => .error k)
        rw [loop3 c r (by omega)]
        cases goOn 4 3 1 (c.toNat % 16) r <;> rfl
      · rw [e] at hl ⊢
        rw [← hl]
        show (match charLoop 3 [c] r with | .ok v => Except.ok (v, 3 + 1) | .error k => .error k) = exC (match goOn 4 4 1 (c.toNat % 8) r with | .ok v => Except.ok (v, 4) | .error k => .error k)
        rw [loop4 c r (by omega)]
        cases goOn 4 4 1 (c.toNat % 8) r <;> rfl
end Sm
/-! ## Numbers in rules' texts: the program's reading against the specification's -/
namespace Sm
open Fh
def headI : Bytes → Int
  | [] => -1
  | c :: _ => c.toNat
def cbL (lo hi : Nat) : Nat → Nat → Nat → Bool
  | 0, _, _ => false
  | f + 1, a, z => if a ≤ hi then (if lo ≤ z then true else cbL lo hi f (a * 10) (z * 10 + 9)) else false
def canBeginM (n lo hi : Nat) : Bool := if n = 0 then decide (lo = 0) else cbL lo hi 9 n n
def isBegunM (n : Nat) (sp : List (Nat × Nat)) : Bool := sp.any fun s => decide (s.1 ≤ s.2) && canBeginM n s.1 s.2
def inSp (sp : List (Nat × Nat)) (v : Nat) : Bool := sp.any fun s => decide (s.1 ≤ v) && decide (v ≤ s.2)
def numL (sp : List (Nat × Nat)) : Option Nat → Nat → Bytes → Except Nat (Option Nat × Nat)
  | f, k, [] => .ok (f, k)
  | f, k, c :: r => if 48 ≤ c.toNat ∧ c.toNat ≤ 57 ∧ f ≠ some 0 then
      (if isBegunM (f.getD 0 * 10 + (c.toNat - 48)) sp = true then numL sp (some (f.getD 0 * 10 + (c.toNat - 48))) (k + 1) r else .error k) else .ok (f, k)
def numEnd (sp : List (Nat × Nat)) : Except Nat (Option Nat × Nat) → Except Nat (Nat × Nat)
  | .error k => .error k
  | .ok (none, k) => .error k
  | .ok (some v, k) => if inSp sp v = true then .ok (v, k) else .error k
def numM (sp : List (Nat × Nat)) (r : Bytes) : Except Nat (Nat × Nat) := numEnd sp (numL sp none 0 r)
/-- the same, or the program goes on where the next byte, a digit, cannot stand -/
def Rel {α : Type} (r : Bytes) (x y : Except Nat (α × Nat)) : Prop := x = y ∨ ∃ v k c, x = .ok (v, k) ∧ y = .error k ∧ r[k]? = some c ∧ isDigit c = true
theorem digit_iff (c : UInt8) : isDigit c = true ↔ (48 ≤ c.toNat ∧ c.toNat ≤ 57) := by
  unfold isDigit
  rw [Bool.and_eq_true, decide_eq_true_eq, decide_eq_true_eq, UInt8.le_iff_toNat_le, UInt8.le_iff_toNat_le]
  exact Iff.rfl
theorem numL_spec (sp : List (Nat × Nat)) (can fin : Nat → Bool) (hc : ∀ v, isBegunM v sp = can v) (hf : ∀ v, inSp sp v = fin v) :
    ∀ (r : Bytes) (v k : Nat) (q : Bytes), q.drop k = r → Rel q (numEnd sp (numL sp (some v) k r)) (moreDigits can fin k v r)
  | [], v, k, q, hq => by
    refine Or.inl ?_
    show (if inSp sp v = true then Except.ok (v, k) else .error k) = if fin v = true then .ok (v, k) else .error k
    rw [hf]
  | c :: r, v, k, q, hq => by
    have hq2 : q.drop (k + 1) = r := by rw [← List.drop_drop, hq]; rfl
    have hqk : q[k]? = some c := by
      have : (q.drop k)[0]? = some c := by rw [hq]; rfl
      rwa [List.getElem?_drop, Nat.add_zero] at this
    rw [numL, moreDigits]
    by_cases h1 : isDigit c = true
    · have h2 := (digit_iff c).mp h1
      by_cases h3 : v = 0
      · subst h3
        rw [if_neg (by simp), if_neg (by simp), if_neg (by simp [h1])]
        show Rel q (if inSp sp 0 = true then Except.ok (0, k) else .error k) _
        by_cases h4 : inSp sp 0 = true
        · rw [if_pos h4]
          exact Or.inr ⟨0, k, c, rfl, rfl, hqk, h1⟩
        · rw [if_neg h4]
          exact Or.inl rfl
      · rw [if_pos ⟨h2.1, h2.2, by simpa using h3⟩]
        rw [Option.getD_some, hc, Nat.mul_comm v 10]
        by_cases h4 : can (10 * v + (c.toNat - 48)) = true
        · rw [if_pos h4, if_pos ⟨h1, h3, h4⟩]
          exact numL_spec sp can fin hc hf r _ _ q hq2
        · rw [if_neg h4, if_neg (fun z => h4 z.2.2), if_neg (by simp [h1])]
          exact Or.inl rfl
    · have h2 : ¬ (48 ≤ c.toNat ∧ c.toNat ≤ 57) := fun z => h1 ((digit_iff c).mpr z)
      rw [if_neg (fun z => h2 ⟨z.1, z.2.1⟩), if_neg (fun z => h1 z.1)]
      refine Or.inl ?_
      show (if inSp sp v = true then Except.ok (v, k) else .error k) = _
      rw [hf]
      by_cases h3 : fin v = true
      · rw [if_pos h3, if_pos ⟨h3, by simpa using h1⟩]
      · rw [if_neg h3, if_neg (fun z => h3 z.1)]
theorem numM_spec (sp : List (Nat × Nat)) (can fin : Nat → Bool) (hc : ∀ v, isBegunM v sp = can v) (hf : ∀ v, inSp sp v = fin v) (r : Bytes) : Rel r (numM sp r) (numberHere can fin r) := by
  cases r with
  | nil => exact Or.inl rfl
  | cons c r =>
    unfold numM
    rw [numL, numberHere]
    by_cases h1 : isDigit c = true
    · have h2 := (digit_iff c).mp h1
      rw [if_pos ⟨h2.1, h2.2, by simp⟩]
      show Rel _ (numEnd sp (if isBegunM (0 * 10 + (c.toNat - 48)) sp = true then numL sp (some (0 * 10 + (c.toNat - 48))) 1 r else _)) _
      rw [Nat.zero_mul, Nat.zero_add, hc]
      by_cases h4 : can (c.toNat - 48) = true
      · rw [if_pos h4, if_pos ⟨h1, h4⟩]
        exact numL_spec sp can fin hc hf r _ 1 (c :: r) rfl
      · rw [if_neg h4, if_neg (fun z => h4 z.2)]
        exact Or.inl rfl
    · have h2 : ¬ (48 ≤ c.toNat ∧ c.toNat ≤ 57) := fun z => h1 ((digit_iff c).mpr z)
      rw [if_neg (fun z => h2 ⟨z.1, z.2.1⟩), if_neg (fun z => h1 z.1)]
      exact Or.inl rfl
/-! bounds told by digits -/
theorem cbL_iff (lo hi : Nat) : ∀ (f a p : Nat), 1 ≤ a → 1 ≤ p → (cbL lo hi f (a * p) (a * p + (p - 1)) = true ↔ ∃ j, j < f ∧ a * (p * 10 ^ j) ≤ hi ∧ lo ≤ a * (p * 10 ^ j) + (p * 10 ^ j - 1))
  | 0, a, p, _, _ => by simp [cbL]
  | f + 1, a, p, ha, hp => by
    have e1 : a * p * 10 = a * (p * 10) := Nat.mul_assoc a p 10
    have e2 : (a * p + (p - 1)) * 10 + 9 = a * (p * 10) + (p * 10 - 1) := by rw [← e1]; omega
    have ih := cbL_iff lo hi f a (p * 10) ha (by omega)
    have mono : ∀ j, a * p ≤ a * (p * 10 ^ j) := fun j => Nat.mul_le_mul_left a (Nat.le_mul_of_pos_right p (Nat.pow_pos (by decide)))
    rw [cbL, e1, e2]
    by_cases h1 : a * p ≤ hi
    · rw [if_pos h1]
      by_cases h2 : lo ≤ a * p + (p - 1)
      · rw [if_pos h2]
        refine ⟨fun _ => ⟨0, by omega, ?_, ?_⟩, fun _ => rfl⟩
        · simpa using h1
        · simpa using h2
      · rw [if_neg h2, ih]
        constructor
        · rintro ⟨j, hj, x, y⟩
          refine ⟨j + 1, by omega, ?_, ?_⟩
          · rw [Nat.pow_succ', ← Nat.mul_assoc p 10]; exact x
          · rw [Nat.pow_succ', ← Nat.mul_assoc p 10]; exact y
        · rintro ⟨j, hj, x, y⟩
          cases j with
          | zero => exact absurd (by simpa using y) h2
          | succ j =>
            rw [Nat.pow_succ', ← Nat.mul_assoc p 10] at x y
            exact ⟨j, by omega, x, y⟩
    · rw [if_neg h1]
      refine ⟨fun z => (Bool.false_ne_true z).elim, fun ⟨j, _, x, _⟩ => absurd (Nat.le_trans (mono j) x) h1⟩
theorem canBegin_begins {v lo hi : Nat} (hh : hi < 100000000) : canBeginM v lo hi = begins lo hi v := by
  unfold canBeginM begins
  by_cases h0 : v = 0
  · rw [if_pos h0, if_pos h0]
  · rw [if_neg h0, if_neg h0]
    have h := cbL_iff lo hi 9 v 1 (by omega) (Nat.le_refl 1)
    rw [Nat.mul_one, Nat.sub_self, Nat.add_zero] at h
    rw [Bool.eq_iff_iff, h, List.any_eq_true]
    constructor
    · rintro ⟨j, hj, x, y⟩
      rw [Nat.one_mul] at x y
      refine ⟨j, ?_, ?_⟩
      · rw [List.mem_range]
        rcases Nat.lt_or_ge j 8 with h8 | h8
        · exact h8
        · exfalso
          have e : j = 8 := by omega
          subst e
          have : 1 * 10 ^ 8 ≤ v * 10 ^ 8 := Nat.mul_le_mul_right _ (by omega)
          omega
      · rw [Bool.and_eq_true, decide_eq_true_eq, decide_eq_true_eq]
        exact ⟨x, y⟩
    · rintro ⟨j, hj, x⟩
      rw [List.mem_range] at hj
      rw [Bool.and_eq_true, decide_eq_true_eq, decide_eq_true_eq] at x
      exact ⟨j, by omega, by rw [Nat.one_mul]; exact x.1, by rw [Nat.one_mul]; exact x.2⟩
theorem isBegun_one {v lo hi : Nat} (hl : lo ≤ hi) (hh : hi < 100000000) : isBegunM v [(lo, hi)] = begins lo hi v := by
  simp only [isBegunM, List.any_cons, List.any_nil, Bool.or_false]
  rw [decide_eq_true hl, Bool.true_and, canBegin_begins hh]
theorem inSp_one {v lo hi : Nat} : inSp [(lo, hi)] v = within lo hi v := by
  simp only [inSp, List.any_cons, List.any_nil, Bool.or_false, within]
theorem num_one {lo hi : Nat} (hl : lo ≤ hi) (hh : hi < 100000000) (r : Bytes) : Rel r (numM [(lo, hi)] r) (numberHere (begins lo hi) (within lo hi) r) :=
  numM_spec _ _ _ (fun _ => isBegun_one hl hh) (fun _ => inSp_one) r
def own (cls : List Nat) : List (Nat × Nat) := cls.map fun s => (s, s)
theorem inSp_own (cls : List Nat) (v : Nat) : inSp (own cls) v = cls.contains v := by
  unfold inSp own
  rw [List.any_map, List.contains_eq_any_beq]
  congr 1
  funext s
  show (decide (s ≤ v) && decide (v ≤ s)) = (v == s)
  rw [Bool.eq_iff_iff, Bool.and_eq_true, decide_eq_true_eq, decide_eq_true_eq, beq_iff_eq]
  omega
theorem begin_own : ∀ s v : Nat, s ≤ 15 → (decide (s ≤ s) && canBeginM v s s) = (s == v || (v != 0 && s / 10 == v)) := by
  intro s v hs
  rw [decide_eq_true (Nat.le_refl s), Bool.true_and, canBegin_begins (by omega)]
  unfold begins
  by_cases h0 : v = 0
  · subst h0
    rw [if_pos rfl]
    by_cases e : s = 0 <;> simp [e]
  · rw [if_neg h0, Bool.eq_iff_iff, List.any_eq_true, Bool.or_eq_true, Bool.and_eq_true, beq_iff_eq, beq_iff_eq, bne_iff_ne]
    constructor
    · rintro ⟨j, hj, x⟩
      rw [Bool.and_eq_true, decide_eq_true_eq, decide_eq_true_eq] at x
      match j with
      | 0 => left; simp at x; omega
      | 1 => right; simp at x; omega
      | j + 2 =>
        exfalso
        have p : 100 ≤ 10 ^ (j + 2) := by
          have : 0 < 10 ^ j := Nat.pow_pos (by decide)
          rw [Nat.pow_add]; omega
        have : 1 * 10 ^ (j + 2) ≤ v * 10 ^ (j + 2) := Nat.mul_le_mul_right _ (by omega)
        omega
    · rintro (e | ⟨_, e⟩)
      · exact ⟨0, by simp, by simp; omega⟩
      · exact ⟨1, by simp, by simp; omega⟩
theorem isBegun_own (cls : List Nat) (v : Nat) (h : ∀ s ∈ cls, s ≤ 15) : isBegunM v (own cls) = cls.any fun (s : Nat) => s == v || (v != 0 && s / 10 == v) := by
  unfold isBegunM own
  rw [List.any_map, Bool.eq_iff_iff, List.any_eq_true, List.any_eq_true]
  constructor
  · rintro ⟨s, hs, e⟩
    exact ⟨s, hs, by rw [← begin_own s v (h s hs)]; exact e⟩
  · rintro ⟨s, hs, e⟩
    exact ⟨s, hs, by rw [← begin_own s v (h s hs)] at e; exact e⟩
theorem num_own {cls : List Nat} (h : ∀ s ∈ cls, s ≤ 15) (r : Bytes) : Rel r (numM (own cls) r) (numberHere (fun (v : Nat) => cls.any fun (s : Nat) => s == v || (v != 0 && s / 10 == v)) (fun (v : Nat) => cls.contains v) r) :=
  numM_spec _ _ _ (fun v => isBegun_own cls v h) (fun v => inSp_own cls v) r
end Sm
/-! ## Rules' texts: the program's reading against the specification's -/
namespace Sm
open Fh
theorem u8 {c : UInt8} (l : UInt8) : c = l ↔ c.toNat = l.toNat := UInt8.toNat_inj.symm
theorem headI_cons (c : UInt8) (r : Bytes) : headI (c :: r) = c.toNat := rfl
theorem headI_eq {r : Bytes} {n : Nat} (h : headI r = (n : Int)) : ∃ c t, r = c :: t ∧ c.toNat = n := by
  cases r with
  | nil => simp [headI] at h
  | cons c t => exact ⟨c, t, rfl, by rw [headI_cons] at h; omega⟩
theorem drop_next {b : Bytes} {n : Nat} {c : UInt8} {t : Bytes} (h : b.drop n = c :: t) : t = b.drop (n + 1) := by
  rw [← List.drop_drop, h]; rfl
theorem drop_lt {b : Bytes} {n : Nat} {c : UInt8} {t : Bytes} (h : b.drop n = c :: t) : n < b.length := by
  rcases Nat.lt_or_ge n b.length with q | q
  · exact q
  · rw [List.drop_eq_nil_of_le q] at h; cases h
/-! ### certain characters -/
def certL : Nat → Nat → List Nat → Bytes → Except Nat (List Nat × Nat)
  | 0, n, _, _ => .error n
  | f + 1, n, l, r => if l = [] ∨ headI r ≠ 34 then (match charHere r with
      | .error k => .error (n + k)
      | .ok x => if x.1 = 34 then .error n else certL f (n + x.2) (x.1 :: l) (r.drop x.2)) else .ok (l.reverse, n + 1)
theorem loop_ok {m : Nat} {g : Bytes} {c : UInt8} {r : Bytes} {x : Int} (h : charLoop (m + 1) g (c :: r) = .ok x) : leastM g ≤ c.toNat ∧ (c.toNat : Int) ≤ mostM g ∧ charLoop m (g ++ [c]) r = .ok x := by
  rw [charLoop] at h
  by_cases y : leastM g ≤ c.toNat ∧ (c.toNat : Int) ≤ mostM g
  · rw [if_pos y] at h; exact ⟨y.1, y.2, h⟩
  · rw [if_neg y] at h; cases h
theorem char_big {c : UInt8} {r : Bytes} {x : Int} {m : Nat} (h : charM (c :: r) = .ok (x, m)) : (m = 1 ∧ x = c.toNat ∧ 32 ≤ c.toNat ∧ c.toNat ≤ 126) ∨ (128 ≤ x ∧ 2 ≤ m ∧ m ≤ r.length + 1 ∧ 194 ≤ c.toNat) := by
  simp only [charM] at h
  by_cases h0 : furtherM c.toNat < 0
  · rw [if_pos h0] at h; cases h
  · rw [if_neg h0] at h
    rcases further_cases h0 with ⟨e, a, b⟩ | ⟨e, a, b⟩ | ⟨e, a, b⟩ | ⟨e, a, b⟩
    · rw [e] at h
      left
      have h1 : Except.ok (ε := Nat) ((c.toNat : Int), 0 + 1) = .ok (x, m) := h
      cases h1
      exact ⟨rfl, rfl, by omega, by omega⟩
    · rw [e] at h
      right
      cases hL : charLoop 1 [c] r with
      | error k => rw [show (1 : Int).toNat = 1 from rfl, hL] at h; cases h
      | ok v =>
        rw [show (1 : Int).toNat = 1 from rfl, hL] at h
        cases h
        cases r with
        | nil => cases hL
        | cons d r =>
          obtain ⟨y1, y2, y3⟩ := loop_ok hL
          have y4 : Except.ok (ε := Nat) (codeM [c, d]) = .ok x := y3
          cases y4
          have : (128 : Int) ≤ leastM [c] := by simp only [leastM]; split <;> (try split) <;> omega
          simp only [codeM, List.length_cons]
          omega
    · rw [e] at h
      right
      cases hL : charLoop 2 [c] r with
      | error k => rw [show (2 : Int).toNat = 2 from rfl, hL] at h; cases h
      | ok v =>
        rw [show (2 : Int).toNat = 2 from rfl, hL] at h
        cases h
        cases r with
        | nil => cases hL
        | cons d r =>
          obtain ⟨y1, y2, y3⟩ := loop_ok hL
          cases r with
          | nil => cases y3
          | cons f r =>
            obtain ⟨z1, z2, z3⟩ := loop_ok y3
            have y4 : Except.ok (ε := Nat) (codeM [c, d, f]) = .ok x := z3
            cases y4
            have q1 : (if c.toNat = 224 then (160 : Int) else 128) ≤ leastM [c] := by simp only [leastM]; repeat' split <;> omega
            have q2 : (128 : Int) ≤ leastM ([c] ++ [d]) := Int.le_refl _
            simp only [codeM, List.length_cons]
            split at q1 <;> omega
    · rw [e] at h
      right
      cases hL : charLoop 3 [c] r with
      | error k => rw [show (3 : Int).toNat = 3 from rfl, hL] at h; cases h
      | ok v =>
        rw [show (3 : Int).toNat = 3 from rfl, hL] at h
        cases h
        cases r with
        | nil => cases hL
        | cons d r =>
          obtain ⟨y1, y2, y3⟩ := loop_ok hL
          cases r with
          | nil => cases y3
          | cons f r =>
            obtain ⟨z1, z2, z3⟩ := loop_ok y3
            cases r with
            | nil => cases z3
            | cons g r =>
              obtain ⟨w1, w2, w3⟩ := loop_ok z3
              have y4 : Except.ok (ε := Nat) (codeM [c, d, f, g]) = .ok x := w3
              cases y4
              have q1 : (if c.toNat = 240 then (144 : Int) else 128) ≤ leastM [c] := by simp only [leastM]; repeat' split <;> omega
              have q2 : (128 : Int) ≤ leastM ([c] ++ [d]) := Int.le_refl _
              have q3 : (128 : Int) ≤ leastM ([c] ++ [d] ++ [f]) := Int.le_refl _
              simp only [codeM, List.length_cons]
              split at q1 <;> omega
theorem charHere_ok {r : Bytes} {x m : Nat} (h : charHere r = .ok (x, m)) : ∃ c t, r = c :: t ∧ ((m = 1 ∧ x = c.toNat ∧ 32 ≤ c.toNat ∧ c.toNat ≤ 126) ∨ (128 ≤ x ∧ 2 ≤ m ∧ m ≤ t.length + 1 ∧ 194 ≤ c.toNat)) := by
  cases r with
  | nil => cases h
  | cons c t =>
    have e := charM_eq (c :: t)
    rw [h] at e
    refine ⟨c, t, rfl, ?_⟩
    rcases char_big (x := x) (m := m) e with ⟨a, b, q⟩ | ⟨a, b⟩
    · exact Or.inl ⟨a, by omega, q⟩
    · exact Or.inr ⟨by omega, b⟩
theorem charHere_pos {r : Bytes} {x : Nat × Nat} (h : charHere r = .ok x) : 1 ≤ x.2 ∧ x.2 ≤ r.length := by
  obtain ⟨c, t, rfl, q⟩ := charHere_ok (x := x.1) (m := x.2) h
  rw [List.length_cons]
  omega
theorem cert_eq : ∀ (f n : Nat) (l : List Nat) (r : Bytes), certL f n l r = litFrom f n l r
  | 0, _, _, _ => rfl
  | f + 1, n, l, [] => by
    rw [certL, litFrom, if_pos (Or.inr (by decide))]
    rfl
  | f + 1, n, l, c :: b => by
    rw [certL, litFrom]
    by_cases h : c = 34
    · have h2 : c.toNat = 34 := (u8 34).mp h
      rw [if_pos h]
      by_cases hl : l = []
      · rw [if_pos (Or.inl hl), if_pos hl]
        have e : charM (c :: b) = .ok (34, 1) := by
          simp only [charM]
          rw [show furtherM (c.toNat : Int) = 0 by rw [h2]; decide]
          show Except.ok ((c.toNat : Int), 1) = _
          rw [h2]
          rfl
        rw [charM_eq] at e
        cases q : charHere (c :: b) with
        | error k => rw [q] at e; cases e
        | ok x =>
          rw [q] at e
          have e2 : (x.1 : Int) = 34 ∧ x.2 = 1 := by
            have : Except.ok (ε := Nat) ((x.1 : Int), x.2) = .ok (34, 1) := e
            injection this with z
            exact ⟨congrArg Prod.fst z, congrArg Prod.snd z⟩
          show (if x.1 = 34 then _ else _) = _
          rw [if_pos (by omega)]
      · rw [if_neg (by rw [headI_cons, h2]; simp [hl]), if_neg hl]
    · have h2 : ¬ c.toNat = 34 := fun z => h ((u8 34).mpr z)
      rw [if_neg h, if_pos (Or.inr (by rw [headI_cons]; omega))]
      cases q : charHere (c :: b) with
      | error k => rfl
      | ok x =>
        show (if x.1 = 34 then _ else _) = litFrom f (n + x.2) (x.1 :: l) ((c :: b).drop x.2)
        obtain ⟨c', t, e, w⟩ := charHere_ok (x := x.1) (m := x.2) q
        injection e with e1 e2
        subst e1
        rw [if_neg (by omega)]
        exact cert_eq f _ _ _
def atomM (cls : List Nat) : Bytes → Except Nat (Atom × Nat)
  | [] => .error 0
  | c :: r => if c.toNat = 46 then .ok (.any, 1)
    else if c.toNat = 37 ∧ cls ≠ [] then (match numM (own cls) r with
      | .ok x => .ok (.cls x.1, x.2 + 1)
      | .error k => .error (k + 1))
    else if c.toNat = 34 then (match certL (r.length + 1) 0 [] r with
      | .ok x => .ok (.lit x.1, x.2 + 1)
      | .error k => .error (k + 1))
    else .error 0
theorem Rel.of_eq {α : Type} {r : Bytes} {x y : Except Nat (α × Nat)} (h : x = y) : Rel r x y := Or.inl h
theorem atom_rel {cls : List Nat} (h : ∀ s ∈ cls, s ≤ 15) (r : Bytes) : Rel r (atomM cls r) (atomHere cls r) := by
  cases r with
  | nil => exact Or.inl rfl
  | cons c r =>
    rw [atomM, atomHere]
    by_cases h1 : c.toNat = 46
    · rw [if_pos h1, if_pos (show c = 46 from (u8 46).mpr h1)]; exact Or.inl rfl
    · rw [if_neg h1, if_neg (show ¬ c = 46 from fun z => h1 ((u8 46).mp z))]
      by_cases h2 : c.toNat = 37 ∧ cls ≠ []
      · rw [if_pos h2, if_neg (show ¬ c = 34 from fun z => by have : c.toNat = 34 := (u8 34).mp z; omega), if_pos (show c = 37 ∧ cls ≠ [] from ⟨(u8 37).mpr h2.1, h2.2⟩)]
        rcases num_own h r with e | ⟨v, k, d, e1, e2, e3, e4⟩
        · rw [e]; exact Or.inl rfl
        · rw [e1, e2]
          exact Or.inr ⟨.cls v, k + 1, d, rfl, rfl, by simpa using e3, e4⟩
      · rw [if_neg h2]
        by_cases h3 : c.toNat = 34
        · rw [if_pos h3, if_pos (show c = 34 from (u8 34).mpr h3), cert_eq]; exact Or.inl rfl
        · rw [if_neg h3, if_neg (show ¬ c = 34 from fun z => h3 ((u8 34).mp z)), if_neg (show ¬ (c = 37 ∧ cls ≠ []) from fun z => h2 ⟨(u8 37).mp z.1, z.2⟩)]; exact Or.inl rfl
def timesM (r : Bytes) : Except Nat (Nat × Nat × Nat) := if headI r ≠ 42 then .ok (1, 1, 0) else match numM [(0, 32)] (r.drop 1) with
  | .error k => .error (k + 1)
  | .ok x => if headI (r.drop (1 + x.2)) ≠ 45 then .error (x.2 + 1) else match numM [(if x.1 = 1 then 2 else x.1, 32)] (r.drop (x.2 + 2)) with
    | .error k => .error (x.2 + 2 + k)
    | .ok y => .ok (x.1, y.1, x.2 + 2 + y.2)
def RelT (r : Bytes) (x y : Except Nat (Nat × Nat × Nat)) : Prop := x = y ∨ ∃ lo hi k c, x = .ok (lo, hi, k) ∧ y = .error k ∧ r[k]? = some c ∧ isDigit c = true
theorem num_in {sp : List (Nat × Nat)} {r : Bytes} {v k : Nat} (h : numM sp r = .ok (v, k)) : inSp sp v = true := by
  unfold numM at h
  cases e : numL sp none 0 r with
  | error j => rw [e] at h; cases h
  | ok z =>
    rw [e] at h
    obtain ⟨o, j⟩ := z
    cases o with
    | none => cases h
    | some u =>
      have h2 : (if inSp sp u = true then Except.ok (u, j) else .error j) = .ok (v, k) := h
      by_cases q : inSp sp u = true
      · rw [if_pos q] at h2; cases h2; exact q
      · rw [if_neg q] at h2; cases h2
theorem times_rel (r : Bytes) : RelT r (timesM r) (timesHere r) := by
  unfold timesM
  cases r with
  | nil => exact Or.inl rfl
  | cons c b =>
    rw [timesHere, headI_cons]
    by_cases h1 : c.toNat = 42
    · rw [if_neg (by omega), if_neg (show ¬ c ≠ 42 from fun z => z ((u8 42).mpr h1))]
      have hr := num_one (lo := 0) (hi := 32) (by decide) (by decide) b
      show RelT _ (match numM [(0, 32)] b with | .error k => _ | .ok x => _) _
      rcases hr with e | ⟨v, k, d, e1, e2, e3, e4⟩
      · rw [← e]
        cases q : numM [(0, 32)] b with
        | error k => exact Or.inl rfl
        | ok x =>
          obtain ⟨lo, n⟩ := x
          have hin := num_in q
          rw [inSp_one] at hin
          unfold within at hin
          rw [Bool.and_eq_true, decide_eq_true_eq, decide_eq_true_eq] at hin
          have e5 : (c :: b).drop (1 + n) = b.drop n := by rw [Nat.add_comm]; rfl
          have e6 : (c :: b).drop (n + 2) = b.drop (n + 1) := rfl
          dsimp only
          rw [e5, e6]
          cases hb : b.drop n with
          | nil =>
            rw [if_pos (by decide)]
            exact Or.inl rfl
          | cons d t =>
            have ht := drop_next hb
            rw [headI_cons]
            dsimp only
            by_cases h2 : d.toNat = 45
            · rw [if_neg (by omega), if_neg (show ¬ d ≠ 45 from fun z => z ((u8 45).mpr h2)), ht]
              have hr2 := num_one (lo := if lo = 1 then 2 else lo) (hi := 32) (by split <;> omega) (by decide) (b.drop (n + 1))
              rcases hr2 with f | ⟨v, k, d2, f1, f2, f3, f4⟩
              · rw [f]
                cases numberHere (begins (if lo = 1 then 2 else lo) 32) (within (if lo = 1 then 2 else lo) 32) (b.drop (n + 1)) <;> exact Or.inl rfl
              · rw [f1, f2]
                refine Or.inr ⟨lo, v, n + 2 + k, d2, rfl, rfl, ?_, f4⟩
                rw [List.getElem?_drop] at f3
                rw [show n + 2 + k = (n + 1 + k) + 1 by omega, List.getElem?_cons_succ]
                exact f3
            · rw [if_pos (by omega), if_pos (show d ≠ 45 from fun z => h2 ((u8 45).mp z))]
              exact Or.inl rfl
      · rw [e1, e2]
        have e5 : (c :: b).drop (1 + k) = b.drop k := by rw [Nat.add_comm]; rfl
        show RelT _ (if headI ((c :: b).drop (1 + k)) ≠ 45 then _ else _) _
        rw [e5]
        have hd : headI (b.drop k) = d.toNat := by
          cases hb : b.drop k with
          | nil =>
            have : (b.drop k)[0]? = some d := by rw [List.getElem?_drop]; exact e3
            rw [hb] at this; cases this
          | cons d2 t =>
            have : (b.drop k)[0]? = some d := by rw [List.getElem?_drop]; exact e3
            rw [hb] at this; cases this; rfl
        have := (digit_iff d).mp e4
        rw [hd, if_pos (by omega)]
        exact Or.inl rfl
    · rw [if_pos (by omega), if_pos (show c ≠ 42 from fun z => h1 ((u8 42).mp z))]
      exact Or.inl rfl
def itemM (cls : List Nat) (r : Bytes) : Except Nat (Item × Nat) := match atomM cls r with
  | .error k => .error k
  | .ok x => match timesM (r.drop x.2) with
    | .error k => .error (x.2 + k)
    | .ok y => .ok (⟨x.1, y.1, y.2.1⟩, x.2 + y.2.2)
theorem item_rel {cls : List Nat} (h : ∀ s ∈ cls, s ≤ 15) (r : Bytes) : Rel r (itemM cls r) (itemHere cls r) := by
  unfold itemM itemHere
  rcases atom_rel h r with e | ⟨v, k, d, e1, e2, e3, e4⟩
  · rw [e]
    cases atomHere cls r with
    | error k => exact Or.inl rfl
    | ok x =>
      obtain ⟨a, n⟩ := x
      show Rel r (match timesM (r.drop n) with | .error k => _ | .ok y => _) (match timesHere (r.drop n) with | .error k => _ | .ok (lo, hi, m) => _)
      rcases times_rel (r.drop n) with f | ⟨lo, hi, k, d, f1, f2, f3, f4⟩
      · rw [f]
        cases timesHere (r.drop n) with
        | error k => exact Or.inl rfl
        | ok y => exact Or.inl rfl
      · rw [f1, f2]
        refine Or.inr ⟨_, n + k, d, rfl, rfl, ?_, f4⟩
        rw [List.getElem?_drop] at f3
        exact f3
  · rw [e1, e2]
    have hd : headI (r.drop k) = d.toNat := by
      have : (r.drop k)[0]? = some d := by rw [List.getElem?_drop]; exact e3
      cases hb : r.drop k with
      | nil => rw [hb] at this; cases this
      | cons d2 t => rw [hb] at this; cases this; rfl
    have h9 := (digit_iff d).mp e4
    have ht : timesM (r.drop k) = .ok (1, 1, 0) := by
      unfold timesM
      rw [hd, if_pos (by omega)]
    show Rel r (match timesM (r.drop k) with | .error k => _ | .ok y => _) (.error k)
    rw [ht]
    exact Or.inr ⟨_, k, d, rfl, rfl, e3, e4⟩
end Sm
/-! ## Lines of rules, rules: the program's reading against the specification's -/
namespace Sm
open Fh
def hd (b : Bytes) (n : Nat) : Int := headI (b.drop n)
theorem hd_cons {b : Bytes} {n : Nat} {c : UInt8} {t : Bytes} (h : b.drop n = c :: t) : hd b n = c.toNat := by unfold hd; rw [h]; rfl
theorem hd_nil {b : Bytes} {n : Nat} (h : b.drop n = []) : hd b n = -1 := by unfold hd; rw [h]; rfl
theorem hd_lt {b : Bytes} {n : Nat} (h : 0 ≤ hd b n) : n < b.length := by
  cases e : b.drop n with
  | nil => rw [hd_nil e] at h; omega
  | cons c t => exact drop_lt e
theorem hd_at {b : Bytes} {n k : Nat} {c : UInt8} (h : (b.drop n)[k]? = some c) : hd b (n + k) = c.toNat := by
  rw [List.getElem?_drop] at h
  cases e : b.drop (n + k) with
  | nil =>
    have : (b.drop (n + k))[0]? = some c := by rw [List.getElem?_drop]; exact h
    rw [e] at this; cases this
  | cons d t =>
    have : (b.drop (n + k))[0]? = some c := by rw [List.getElem?_drop]; exact h
    rw [e] at this; cases this
    exact hd_cons e
def beforeL (cls : List Nat) (b : Bytes) : Nat → Nat → List Item → Except Nat (List Item × Nat)
  | 0, n, _ => .error n
  | f + 1, n, l => if hd b n = 124 then .ok (l.reverse, n + 1) else match itemM cls (b.drop n) with
    | .error k => .error (n + k)
    | .ok x => if hd b (n + x.2) = 32 then beforeL cls b f (n + x.2 + 1) (x.1 :: l) else .error (n + x.2)
def behindL (cls : List Nat) (b : Bytes) : Nat → Nat → List Item → Except Nat ((List Item × Bool) × Nat)
  | 0, n, _ => .error n
  | f + 1, n, l => if hd b n = 32 then (if hd b (n + 1) = 36 then .ok ((l.reverse, true), n + 2) else match itemM cls (b.drop (n + 1)) with
      | .error k => .error (n + 1 + k)
      | .ok x => behindL cls b f (n + 1 + x.2) (x.1 :: l)) else .ok ((l.reverse, false), n)
theorem rf_nil {cls : List Nat} {cut : Bool} {f n : Nat} {h : Half} : ruleFrom cls cut (f + 1) n h [] = .error n := rfl
theorem rf_cons {classes : List Nat} {cut : Bool} {f n : Nat} {h : Half} {c : UInt8} {b : Bytes} : ruleFrom classes cut (f + 1) n h (c :: b) =
    (if c = 10 ∧ h.bar = true then .ok (h.rule cut, n + 1)
    else if c ≠ 32 ∨ h.halt_ = true then .error n
    else match b with
      | [] => .error (n + 1)
      | d :: r => if d = 94 ∧ h.start = false ∧ h.before = [] ∧ h.bar = false then ruleFrom classes cut f (n + 2) { h with start := true } r
        else if d = 124 ∧ h.bar = false then ruleFrom classes cut f (n + 2) { h with bar := true } r
        else if d = 36 ∧ h.bar = true then ruleFrom classes cut f (n + 2) { h with halt_ := true } r
        else match itemHere classes (d :: r) with
          | .ok (i, m) => ruleFrom classes cut f (n + 1 + m) (h.with_ i) ((d :: r).drop m)
          | .error k => .error (n + 1 + k)) := rfl
def ruleEnd (b : Bytes) (cut st : Bool) (bf : List Item) : Except Nat ((List Item × Bool) × Nat) → Except Nat (Rule × Nat)
  | .error k => .error k
  | .ok x => if hd b x.2 = 10 then .ok (⟨cut, st, bf, x.1.1, x.1.2⟩, x.2 + 1) else .error x.2
theorem behind_eq {cls : List Nat} (hc : ∀ s ∈ cls, s ≤ 15) (b : Bytes) (cut st : Bool) (bf : List Item) : ∀ (F f n : Nat) (l : List Item), b.length - n < F → b.length - n < f →
    ruleFrom cls cut f n ⟨st, bf, true, l, false⟩ (b.drop n) = ruleEnd b cut st bf.reverse (behindL cls b F n l)
  | 0, _, _, _, h, _ => by omega
  | _, 0, _, _, _, h => by omega
  | F + 1, f + 1, n, l, h1, h2 => by
    rw [behindL]
    cases e : b.drop n with
    | nil =>
      rw [rf_nil, hd_nil e, if_neg (by decide)]
      show _ = if hd b n = 10 then _ else _
      rw [hd_nil e, if_neg (by decide)]
    | cons c t =>
      have ht := drop_next e
      have hl := drop_lt e
      rw [rf_cons, hd_cons e]
      by_cases h10 : c.toNat = 10
      · rw [if_pos (show c = 10 ∧ _ from ⟨(u8 10).mpr h10, rfl⟩), if_neg (by omega)]
        show _ = if hd b n = 10 then _ else _
        rw [hd_cons e, if_pos (by omega)]
        rfl
      · rw [if_neg (show ¬ (c = 10 ∧ _) from fun z => h10 ((u8 10).mp z.1))]
        by_cases h32 : c.toNat = 32
        · rw [if_neg (show ¬ (c ≠ 32 ∨ _) from fun z => z.elim (fun z => z ((u8 32).mpr h32)) (fun z => Bool.false_ne_true z)), if_pos (by omega)]
          rw [ht]
          cases e2 : b.drop (n + 1) with
          | nil =>
            have e3 : hd b (n + 1) = -1 := hd_nil e2
            rw [e3, if_neg (by decide)]
            rfl
          | cons d r =>
            have hr := drop_next e2
            have hl2 := drop_lt e2
            rw [hd_cons e2]
            dsimp only
            rw [if_neg (show ¬ (d = 94 ∧ _) from fun z => by simp at z), if_neg (show ¬ (d = 124 ∧ _) from fun z => by simp at z)]
            by_cases h36 : d.toNat = 36
            · rw [if_pos (show d = 36 ∧ _ from ⟨(u8 36).mpr h36, rfl⟩), if_pos (by omega)]
              show _ = if hd b (n + 2) = 10 then _ else _
              rw [hr]
              show ruleFrom cls cut f (n + 2) _ (b.drop (n + 2)) = _
              cases f with
              | zero => omega
              | succ f =>
                cases e3 : b.drop (n + 2) with
                | nil =>
                  rw [rf_nil, hd_nil e3, if_neg (by decide)]
                | cons g q =>
                  rw [rf_cons, hd_cons e3]
                  by_cases g10 : g.toNat = 10
                  · rw [if_pos (show g = 10 ∧ _ from ⟨(u8 10).mpr g10, rfl⟩), if_pos (by omega)]
                    rfl
                  · rw [if_neg (show ¬ (g = 10 ∧ _) from fun z => g10 ((u8 10).mp z.1)), if_pos (Or.inr rfl), if_neg (by omega)]
            · rw [if_neg (show ¬ (d = 36 ∧ _) from fun z => h36 ((u8 36).mp z.1)), if_neg (by omega)]
              rcases item_rel hc (d :: r) with q | ⟨v, k, g, q1, q2, q3, q4⟩
              · rw [q]
                cases itemHere cls (d :: r) with
                | error k => rfl
                | ok x =>
                  dsimp only
                  have ih := behind_eq hc b cut st bf F f (n + 1 + x.2) (x.1 :: l) (by omega) (by omega)
                  rw [← ih, ← e2, List.drop_drop]
                  rfl
              · rw [q1, q2]
                dsimp only
                have e4 : hd b (n + 1 + k) = g.toNat := hd_at (by rw [e2]; exact q3)
                have := (digit_iff g).mp q4
                cases F with
                | zero => omega
                | succ F =>
                  rw [behindL, e4, if_neg (by omega)]
                  show _ = if hd b (n + 1 + k) = 10 then _ else _
                  rw [e4, if_neg (by omega)]
        · rw [if_pos (show c ≠ 32 ∨ _ from Or.inl fun z => h32 ((u8 32).mp z)), if_neg (by omega)]
          show _ = if hd b n = 10 then _ else _
          rw [hd_cons e, if_neg (by omega)]
def ruleGo (cls : List Nat) (b : Bytes) (cut st : Bool) : Except Nat (List Item × Nat) → Except Nat (Rule × Nat)
  | .error k => .error k
  | .ok x => ruleEnd b cut st x.1 (behindL cls b (b.length + 1) x.2 [])
theorem before_eq {cls : List Nat} (hc : ∀ s ∈ cls, s ≤ 15) (b : Bytes) (cut st : Bool) : ∀ (F f n : Nat) (l : List Item), b.length - n < F → b.length - n < f → hd b n = 32 → ¬ (hd b (n + 1) = 94 ∧ st = false ∧ l = []) →
    ruleFrom cls cut f n ⟨st, l, false, [], false⟩ (b.drop n) = ruleGo cls b cut st (beforeL cls b F (n + 1) l)
  | 0, _, _, _, h, _, _, _ => by omega
  | _, 0, _, _, _, h, _, _ => by omega
  | F + 1, f + 1, n, l, h1, h2, h3, h4 => by
    rw [beforeL]
    cases e : b.drop n with
    | nil => rw [hd_nil e] at h3; exact absurd h3 (by decide)
    | cons c t =>
      have ht := drop_next e
      have hl := drop_lt e
      have h32 : c.toNat = 32 := by rw [hd_cons e] at h3; omega
      rw [rf_cons, if_neg (show ¬ (c = 10 ∧ _) from fun z => by simp at z), if_neg (show ¬ (c ≠ 32 ∨ _) from fun z => z.elim (fun z => z ((u8 32).mpr h32)) (fun z => Bool.false_ne_true z)), ht]
      cases e2 : b.drop (n + 1) with
      | nil =>
        rw [hd_nil e2, if_neg (by decide)]
        rfl
      | cons d r =>
        have hr := drop_next e2
        have hl2 := drop_lt e2
        rw [hd_cons e2] at h4 ⊢
        dsimp only
        rw [if_neg (show ¬ (d = 94 ∧ st = false ∧ l = [] ∧ false = false) from fun z => h4 ⟨by have := (u8 94).mp z.1; rw [this]; rfl, z.2.1, z.2.2.1⟩)]
        by_cases h124 : d.toNat = 124
        · rw [if_pos (show d = 124 ∧ _ from ⟨(u8 124).mpr h124, rfl⟩), if_pos (by omega), hr]
          have := behind_eq hc b cut st l (b.length + 1) f (n + 2) [] (by omega) (by omega)
          exact this
        · rw [if_neg (show ¬ (d = 124 ∧ _) from fun z => h124 ((u8 124).mp z.1)), if_neg (show ¬ (d = 36 ∧ _) from fun z => by simp at z), if_neg (by omega)]
          rcases item_rel hc (d :: r) with q | ⟨v, k, g, q1, q2, q3, q4⟩
          · rw [q]
            cases itemHere cls (d :: r) with
            | error k => rfl
            | ok x =>
              dsimp only
              by_cases h5 : hd b (n + 1 + x.2) = 32
              · rw [if_pos h5]
                have hlt := hd_lt (b := b) (n := n + 1 + x.2) (by omega)
                have ih := before_eq hc b cut st F f (n + 1 + x.2) (x.1 :: l) (by omega) (by omega) h5 (fun z => by cases z.2.2)
                rw [← ih, ← e2, List.drop_drop]
                rfl
              · rw [if_neg h5]
                show ruleFrom cls cut f (n + 1 + x.2) _ ((d :: r).drop x.2) = .error (n + 1 + x.2)
                rw [← e2, List.drop_drop]
                cases f with
                | zero => omega
                | succ f =>
                  cases e3 : b.drop (n + 1 + x.2) with
                  | nil => rw [rf_nil]
                  | cons g q =>
                    rw [hd_cons e3] at h5
                    rw [rf_cons, if_neg (show ¬ (g = 10 ∧ _) from fun z => by have := z.2; simp [Half.with_] at this), if_pos (show g ≠ 32 ∨ _ from Or.inl fun z => h5 (by rw [(u8 32).mp z]; rfl))]
          · rw [q1, q2]
            dsimp only
            have e4 : hd b (n + 1 + k) = g.toNat := hd_at (by rw [e2]; exact q3)
            have := (digit_iff g).mp q4
            rw [e4, if_neg (by omega)]
            rfl
def ruleM (cls : List Nat) (b : Bytes) (n : Nat) : Except Nat (Rule × Nat) :=
  if hd b n ≠ (if hd b n = 43 then 43 else 45) then .error n
  else if hd b (n + 1) ≠ 32 then .error (n + 1)
  else if hd b (n + 2) = 94 then (if hd b (n + 3) ≠ 32 then .error (n + 3) else ruleGo cls b (decide (hd b n = 43)) true (beforeL cls b (b.length + 1) (n + 4) []))
  else ruleGo cls b (decide (hd b n = 43)) false (beforeL cls b (b.length + 1) (n + 2) [])
theorem rule_eq {cls : List Nat} (hc : ∀ s ∈ cls, s ≤ 15) {b : Bytes} {n : Nat} {c : UInt8} {t : Bytes} (e : b.drop n = c :: t) (h : c.toNat = 43 ∨ c.toNat = 45) :
    ruleM cls b n = ruleFrom cls (c == 43) (t.length + 1) (n + 1) ⟨false, [], false, [], false⟩ t := by
  have ht := drop_next e
  have hl := drop_lt e
  have hlen : t.length = b.length - (n + 1) := by rw [ht, List.length_drop]
  have hcut : (c == 43) = decide (hd b n = 43) := by
    rw [hd_cons e, Bool.eq_iff_iff, beq_iff_eq, decide_eq_true_eq]
    exact (u8 43).trans ⟨fun z => by rw [z]; rfl, fun z => by show c.toNat = 43; omega⟩
  have hfst : ¬ hd b n ≠ (if hd b n = 43 then 43 else 45) := by
    rw [hd_cons e]
    rcases h with h | h
    · rw [h]; decide
    · rw [h]; decide
  rw [ruleM, if_neg hfst, hcut]
  generalize decide (hd b n = 43) = cut
  rw [hlen, ht]
  by_cases h1 : hd b (n + 1) = 32
  · have hl1 := hd_lt (b := b) (n := n + 1) (by omega)
    rw [if_neg (fun z => z h1)]
    by_cases h2 : hd b (n + 2) = 94
    · have hl2 := hd_lt (b := b) (n := n + 2) (by omega)
      rw [if_pos h2]
      have e1 : ruleFrom cls cut (b.length - (n + 1) + 1) (n + 1) ⟨false, [], false, [], false⟩ (b.drop (n + 1)) = ruleFrom cls cut (b.length - (n + 1)) (n + 3) ⟨true, [], false, [], false⟩ (b.drop (n + 3)) := by
        cases e3 : b.drop (n + 1) with
        | nil => rw [hd_nil e3] at h1; exact absurd h1 (by decide)
        | cons d r =>
          have hr := drop_next e3
          rw [hd_cons e3] at h1
          rw [rf_cons, if_neg (show ¬ (d = 10 ∧ _) from fun z => by simp at z), if_neg (show ¬ (d ≠ 32 ∨ _) from fun z => z.elim (fun z => z ((u8 32).mpr (by show d.toNat = 32; omega))) (fun z => Bool.false_ne_true z)), hr]
          cases e4 : b.drop (n + 1 + 1) with
          | nil =>
            have := hd_nil e4
            rw [this] at h2; exact absurd h2 (by decide)
          | cons g q =>
            have hq := drop_next e4
            have h3 : hd b (n + 2) = g.toNat := hd_cons e4
            rw [h3] at h2
            dsimp only
            rw [if_pos (show g = 94 ∧ _ from ⟨(u8 94).mpr (by show g.toNat = 94; omega), rfl, rfl, rfl⟩), hq]
      rw [e1]
      by_cases h3 : hd b (n + 3) = 32
      · have hl3 := hd_lt (b := b) (n := n + 3) (by omega)
        rw [if_neg (fun z => z h3)]
        exact (before_eq hc b cut true (b.length + 1) (b.length - (n + 1)) (n + 3) [] (by omega) (by omega) h3 (fun z => by cases z.2.1)).symm
      · rw [if_pos h3]
        cases e5 : b.length - (n + 1) with
        | zero => omega
        | succ f =>
          cases e3 : b.drop (n + 3) with
          | nil => rw [rf_nil]
          | cons g q =>
            rw [hd_cons e3] at h3
            rw [rf_cons, if_neg (show ¬ (g = 10 ∧ _) from fun z => by simp at z), if_pos (show g ≠ 32 ∨ _ from Or.inl fun z => h3 (by rw [(u8 32).mp z]; rfl))]
    · rw [if_neg h2]
      exact (before_eq hc b cut false (b.length + 1) (b.length - (n + 1) + 1) (n + 1) [] (by omega) (by omega) h1 (fun z => h2 z.1)).symm
  · rw [if_pos h1]
    cases e3 : b.drop (n + 1) with
    | nil => rw [rf_nil]
    | cons g q =>
      rw [hd_cons e3] at h1
      rw [rf_cons, if_neg (show ¬ (g = 10 ∧ _) from fun z => by simp at z), if_pos (show g ≠ 32 ∨ _ from Or.inl fun z => h1 (by rw [(u8 32).mp z]; rfl))]
end Sm
/-! ## Classes, rules as a whole -/
namespace Sm
open Fh
abbrev Rngs := List (Nat × Nat)
abbrev Clss := List (Nat × Rngs)
def leastR (l : Rngs) : Nat := (l.head?.map fun (x : Nat × Nat) => x.2 + 1).getD 0
def leastC (cs : Clss) : Nat := (cs.head?.map fun (x : Nat × Rngs) => x.1 + 1).getD 0
def rangesL (b : Bytes) : Nat → Nat → Rngs → Except Nat (Rngs × Nat)
  | 0, n, _ => .error n
  | f + 1, n, l => if l = [] ∨ (hd b n = 32 ∧ leastR l ≤ 1114111) then
      (if hd b n ≠ 32 then .error n else match numM [(leastR l, 1114111)] (b.drop (n + 1)) with
        | .error k => .error (n + 1 + k)
        | .ok x => if hd b (n + 1 + x.2) ≠ 45 then .error (n + 1 + x.2) else match numM [(x.1, 1114111)] (b.drop (n + 2 + x.2)) with
          | .error k => .error (n + 2 + x.2 + k)
          | .ok y => rangesL b f (n + 2 + x.2 + y.2) ((x.1, y.1) :: l)) else .ok (l.reverse, n)
def lineEnd {α : Type} (b : Bytes) : Except Nat (α × Nat) → Except Nat (α × Nat)
  | .error k => .error k
  | .ok x => if hd b x.2 = 10 then .ok (x.1, x.2 + 1) else .error x.2
theorem rg_nil {f n : Nat} {l : Rngs} : rangesFrom (f + 1) n l [] = .error n := rfl
theorem rg_cons {f n : Nat} {l : Rngs} {c : UInt8} {b : Bytes} : rangesFrom (f + 1) n l (c :: b) =
    (if c = 10 ∧ l ≠ [] then .ok (l.reverse, n + 1)
    else if c ≠ 32 ∨ LARGEST < leastR l then .error n
    else match numberHere (begins (leastR l) LARGEST) (within (leastR l) LARGEST) b with
      | .error k => .error (n + 1 + k)
      | .ok (x, m) => match b.drop m with
        | [] => .error (n + 1 + m)
        | d :: r => if d ≠ 45 then .error (n + 1 + m) else match numberHere (begins x LARGEST) (within x LARGEST) r with
          | .error k => .error (n + 2 + m + k)
          | .ok (y, j) => rangesFrom f (n + 2 + m + j) ((x, y) :: l) (r.drop j)) := rfl
theorem within_le {lo hi v : Nat} (h : within lo hi v = true) : lo ≤ v ∧ v ≤ hi := by
  unfold within at h
  rw [Bool.and_eq_true, decide_eq_true_eq, decide_eq_true_eq] at h
  exact h
theorem ranges_eq (b : Bytes) : ∀ (F f n : Nat) (l : Rngs), b.length - n < F → b.length - n < f → (l = [] → leastR l ≤ 1114111) → rangesFrom f n l (b.drop n) = lineEnd b (rangesL b F n l)
  | 0, _, _, _, h, _, _ => by omega
  | _, 0, _, _, _, h, _ => by omega
  | F + 1, f + 1, n, l, h1, h2, h0 => by
    rw [rangesL]
    cases e : b.drop n with
    | nil =>
      rw [rg_nil, hd_nil e]
      by_cases hl : l = []
      · rw [if_pos (Or.inl hl), if_pos (by decide)]; rfl
      · rw [if_neg (fun z => z.elim hl (fun z => by have := z.1; omega))]
        show _ = if hd b n = 10 then _ else _
        rw [hd_nil e, if_neg (by decide)]
    | cons c t =>
      have ht := drop_next e
      have hlt := drop_lt e
      rw [rg_cons, hd_cons e]
      by_cases h10 : c.toNat = 10 ∧ l ≠ []
      · rw [if_pos (show c = 10 ∧ l ≠ [] from ⟨(u8 10).mpr h10.1, h10.2⟩), if_neg (fun z => z.elim h10.2 (fun z => by omega))]
        show _ = if hd b n = 10 then _ else _
        rw [hd_cons e, if_pos (by omega)]
      · rw [if_neg (show ¬ (c = 10 ∧ l ≠ []) from fun z => h10 ⟨(u8 10).mp z.1, z.2⟩)]
        by_cases h32 : c.toNat = 32 ∧ leastR l ≤ 1114111
        · rw [if_neg (show ¬ (c ≠ 32 ∨ LARGEST < leastR l) from fun z => z.elim (fun z => z ((u8 32).mpr h32.1)) (fun z => by have : 1114111 < leastR l := z; omega)), if_pos (Or.inr ⟨by omega, h32.2⟩), if_neg (by omega), ht]
          have hn := num_one (hi := 1114111) h32.2 (by decide) (b.drop (n + 1))
          show (match numberHere (begins (leastR l) 1114111) (within (leastR l) 1114111) (b.drop (n + 1)) with | .error k => _ | .ok (x, m) => _) = _
          rcases hn with q | ⟨v, k, g, q1, q2, q3, q4⟩
          · rw [q]
            cases q0 : numberHere (begins (leastR l) 1114111) (within (leastR l) 1114111) (b.drop (n + 1)) with
            | error k => rfl
            | ok x =>
              obtain ⟨x, m⟩ := x
              have hx := num_in (q.trans q0)
              rw [inSp_one] at hx
              have hx2 := within_le hx
              dsimp only
              rw [List.drop_drop]
              cases e2 : b.drop (n + 1 + m) with
              | nil =>
                rw [hd_nil e2, if_pos (by decide)]; rfl
              | cons d r =>
                have hr := drop_next e2
                rw [hd_cons e2]
                dsimp only
                by_cases h45 : d.toNat = 45
                · rw [if_neg (show ¬ d ≠ 45 from fun z => z ((u8 45).mpr h45)), if_neg (by omega)]
                  have er : r = b.drop (n + 2 + m) := by rw [hr]; congr 1; omega
                  rw [er]
                  have hn2 := num_one (lo := x) (hi := 1114111) hx2.2 (by decide) (b.drop (n + 2 + m))
                  show (match numberHere (begins x 1114111) (within x 1114111) (b.drop (n + 2 + m)) with | .error k => _ | .ok (y, j) => _) = _
                  rcases hn2 with p | ⟨v, k, g, p1, p2, p3, p4⟩
                  · rw [p]
                    cases numberHere (begins x 1114111) (within x 1114111) (b.drop (n + 2 + m)) with
                    | error k => rfl
                    | ok y =>
                      obtain ⟨y, j⟩ := y
                      dsimp only
                      rw [List.drop_drop]
                      exact ranges_eq b F f (n + 2 + m + j) ((x, y) :: l) (by omega) (by omega) (fun z => by cases z)
                  · rw [p1, p2]
                    dsimp only
                    have e4 : hd b (n + 2 + m + k) = g.toNat := hd_at p3
                    have := (digit_iff g).mp p4
                    cases F with
                    | zero => have := drop_lt e2; omega
                    | succ F =>
                      rw [rangesL, if_neg (fun z => z.elim (fun z => by cases z) (fun z => by omega))]
                      show _ = if hd b (n + 2 + m + k) = 10 then _ else _
                      rw [e4, if_neg (by omega)]
                · rw [if_pos (show d ≠ 45 from fun z => h45 ((u8 45).mp z)), if_pos (by omega)]; rfl
          · rw [q1, q2]
            dsimp only
            have e4 : hd b (n + 1 + k) = g.toNat := hd_at q3
            have := (digit_iff g).mp q4
            rw [e4, if_pos (by omega)]; rfl
        · rw [if_pos (show c ≠ 32 ∨ LARGEST < leastR l from by
            by_cases hc : c.toNat = 32
            · exact Or.inr (by show 1114111 < leastR l; omega)
            · exact Or.inl fun z => hc ((u8 32).mp z))]
          by_cases hl : l = []
          · have := h0 hl
            rw [if_pos (Or.inl hl), if_pos (by omega)]; rfl
          · rw [if_neg (fun z => z.elim hl (fun z => h32 ⟨by omega, z.2⟩))]
            show _ = if hd b n = 10 then _ else _
            rw [hd_cons e, if_neg (fun z => h10 ⟨by omega, hl⟩)]
def classesL (b : Bytes) : Nat → Nat → Clss → Except Nat (Clss × Nat)
  | 0, n, _ => .error n
  | f + 1, n, cs => if hd b n = 37 ∧ leastC cs ≤ 15 then (match numM [(leastC cs, 15)] (b.drop (n + 1)) with
      | .error k => .error (n + 1 + k)
      | .ok x => match lineEnd b (rangesL b (b.length + 1) (n + 1 + x.2) []) with
        | .error k => .error k
        | .ok y => classesL b f y.2 ((x.1, y.1) :: cs)) else .ok (cs.reverse, n)
def rulesL (cls : List Nat) (b : Bytes) : Nat → Nat → List Rule → Except Nat (List Rule)
  | 0, n, _ => .error n
  | f + 1, n, rs => if n < b.length then (match ruleM cls b n with
      | .error k => .error k
      | .ok x => rulesL cls b f x.2 (x.1 :: rs)) else .ok rs.reverse
def wholeM (b : Bytes) : Except Nat Rules := match classesL b (b.length + 1) 0 [] with
  | .error k => .error k
  | .ok x => match rulesL (x.1.map fun c => c.1) b (b.length + 1) x.2 [] with
    | .error k => .error k
    | .ok rs => .ok ⟨x.1, rs⟩
/-! progress -/
theorem lineEnd_gt {α : Type} {b : Bytes} {x : Except Nat (α × Nat)} {y : α × Nat} (h : lineEnd b x = .ok y) : y.2 ≤ b.length ∧ ∃ m, x = .ok (y.1, m) ∧ y.2 = m + 1 := by
  cases x with
  | error k => cases h
  | ok z =>
    have h2 : (if hd b z.2 = 10 then Except.ok (z.1, z.2 + 1) else .error z.2) = .ok y := h
    by_cases q : hd b z.2 = 10
    · rw [if_pos q] at h2
      cases h2
      have := hd_lt (b := b) (n := z.2) (by omega)
      exact ⟨by show z.2 + 1 ≤ _; omega, z.2, rfl, rfl⟩
    · rw [if_neg q] at h2; cases h2
theorem rangesL_ge (b : Bytes) : ∀ (F n : Nat) (l : Rngs) (x : Rngs × Nat), rangesL b F n l = .ok x → n ≤ x.2
  | 0, _, _, _, h => by cases h
  | F + 1, n, l, x, h => by
    rw [rangesL] at h
    by_cases h1 : l = [] ∨ (hd b n = 32 ∧ leastR l ≤ 1114111)
    · rw [if_pos h1] at h
      by_cases h2 : hd b n ≠ 32
      · rw [if_pos h2] at h; cases h
      · rw [if_neg h2] at h
        cases q : numM [(leastR l, 1114111)] (b.drop (n + 1)) with
        | error k => rw [q] at h; cases h
        | ok y =>
          rw [q] at h
          dsimp only at h
          by_cases h3 : hd b (n + 1 + y.2) ≠ 45
          · rw [if_pos h3] at h; cases h
          · rw [if_neg h3] at h
            cases q2 : numM [(y.1, 1114111)] (b.drop (n + 2 + y.2)) with
            | error k => rw [q2] at h; cases h
            | ok z =>
              rw [q2] at h
              have := rangesL_ge b F _ _ x h
              omega
    · rw [if_neg h1] at h
      cases h
      exact Nat.le_refl _
theorem ruleEnd_gt {b : Bytes} {cut st : Bool} {bf : List Item} {x : Except Nat ((List Item × Bool) × Nat)} {y : Rule × Nat} (h : ruleEnd b cut st bf x = .ok y) : ∃ z m, x = .ok (z, m) ∧ y.2 = m + 1 ∧ m < b.length := by
  cases x with
  | error k => cases h
  | ok z =>
    have h2 : (if hd b z.2 = 10 then Except.ok ((⟨cut, st, bf, z.1.1, z.1.2⟩ : Rule), z.2 + 1) else .error z.2) = .ok y := h
    by_cases q : hd b z.2 = 10
    · rw [if_pos q] at h2
      cases h2
      exact ⟨z.1, z.2, rfl, rfl, hd_lt (by omega)⟩
    · rw [if_neg q] at h2; cases h2
theorem behindL_ge (cls : List Nat) (b : Bytes) : ∀ (F n : Nat) (l : List Item) (x : (List Item × Bool) × Nat), behindL cls b F n l = .ok x → n ≤ x.2
  | 0, _, _, _, h => by cases h
  | F + 1, n, l, x, h => by
    rw [behindL] at h
    by_cases h1 : hd b n = 32
    · rw [if_pos h1] at h
      by_cases h2 : hd b (n + 1) = 36
      · rw [if_pos h2] at h; cases h; show n ≤ n + 2; omega
      · rw [if_neg h2] at h
        cases q : itemM cls (b.drop (n + 1)) with
        | error k => rw [q] at h; cases h
        | ok y =>
          rw [q] at h
          have := behindL_ge cls b F _ _ x h
          omega
    · rw [if_neg h1] at h; cases h; exact Nat.le_refl _
theorem beforeL_ge (cls : List Nat) (b : Bytes) : ∀ (F n : Nat) (l : List Item) (x : List Item × Nat), beforeL cls b F n l = .ok x → n ≤ x.2
  | 0, _, _, _, h => by cases h
  | F + 1, n, l, x, h => by
    rw [beforeL] at h
    by_cases h1 : hd b n = 124
    · rw [if_pos h1] at h; cases h; show n ≤ n + 1; omega
    · rw [if_neg h1] at h
      cases q : itemM cls (b.drop n) with
      | error k => rw [q] at h; cases h
      | ok y =>
        rw [q] at h
        dsimp only at h
        by_cases h2 : hd b (n + y.2) = 32
        · rw [if_pos h2] at h
          have := beforeL_ge cls b F _ _ x h
          omega
        · rw [if_neg h2] at h; cases h
theorem ruleGo_gt {cls : List Nat} {b : Bytes} {cut st : Bool} {F n : Nat} {y : Rule × Nat} (h : ruleGo cls b cut st (beforeL cls b F n []) = .ok y) : n < y.2 ∧ y.2 ≤ b.length := by
  cases q : beforeL cls b F n [] with
  | error k => rw [q] at h; cases h
  | ok x =>
    rw [q] at h
    obtain ⟨z, m, e1, e2, e3⟩ := ruleEnd_gt h
    have h1 := beforeL_ge _ _ _ _ _ _ q
    have h2 : x.2 ≤ m := behindL_ge _ _ _ _ _ _ e1
    omega
theorem ruleM_gt {cls : List Nat} {b : Bytes} {n : Nat} {y : Rule × Nat} (h : ruleM cls b n = .ok y) : n < y.2 ∧ y.2 ≤ b.length := by
  unfold ruleM at h
  by_cases c1 : hd b n ≠ (if hd b n = 43 then 43 else 45)
  · rw [if_pos c1] at h; cases h
  · rw [if_neg c1] at h
    by_cases c2 : hd b (n + 1) ≠ 32
    · rw [if_pos c2] at h; cases h
    · rw [if_neg c2] at h
      by_cases c3 : hd b (n + 2) = 94
      · rw [if_pos c3] at h
        by_cases c4 : hd b (n + 3) ≠ 32
        · rw [if_pos c4] at h; cases h
        · rw [if_neg c4] at h
          have := ruleGo_gt h; omega
      · rw [if_neg c3] at h
        have := ruleGo_gt h; omega
theorem rf0 {f n : Nat} {cs : Clss} {rs : List Rule} : rulesFrom f n cs rs [] = .ok ⟨cs.reverse, rs.reverse⟩ := by cases f <;> rfl
theorem rf1 {f n : Nat} {cs : Clss} {rs : List Rule} {c : UInt8} {b : Bytes} : rulesFrom (f + 1) n cs rs (c :: b) =
    (if c = 37 ∧ rs.isEmpty = true ∧ leastC cs < CLASSES then (match numberHere (begins (leastC cs) (CLASSES - 1)) (within (leastC cs) (CLASSES - 1)) b with
      | .error k => .error (n + 1 + k)
      | .ok (x, m) => match rangesFrom (b.length + 1) (n + 1 + m) [] (b.drop m) with
        | .error k => .error k
        | .ok (l, k) => rulesFrom f k ((x, l) :: cs) rs ((c :: b).drop (k - n)))
    else if c = 43 ∨ c = 45 then (match ruleFrom (cs.map fun (x : Nat × Rngs) => x.1) (c == 43) (b.length + 1) (n + 1) ⟨false, [], false, [], false⟩ b with
      | .error k => .error k
      | .ok (r, k) => rulesFrom f k cs (r :: rs) ((c :: b).drop (k - n)))
    else .error n) := rfl
theorem ruleFrom_perm {cl cl' : List Nat} (h1 : cl = cl') : ruleFrom cl = ruleFrom cl' := by rw [h1]
theorem rules_eq (b : Bytes) (cs : Clss) (hc : ∀ s ∈ (cs.map fun c => c.1), s ≤ 15) : ∀ (F f n : Nat) (rs : List Rule), b.length - n < F → b.length - n < f → (rs ≠ [] ∨ ¬ (hd b n = 37 ∧ leastC cs ≤ 15)) →
    rulesFrom f n cs rs (b.drop n) = match rulesL (cs.map fun c => c.1) b F n rs with
      | .error k => .error k
      | .ok x => .ok ⟨cs.reverse, x⟩
  | 0, _, _, _, h, _, _ => by omega
  | _, 0, _, _, _, h, _ => by omega
  | F + 1, f + 1, n, rs, h1, h2, h3 => by
    rw [rulesL]
    cases e : b.drop n with
    | nil =>
      have : ¬ n < b.length := by
        intro z
        have := List.drop_eq_getElem_cons z
        rw [e] at this; cases this
      rw [rf0, if_neg this]
    | cons c t =>
      have ht := drop_next e
      have hlt := drop_lt e
      rw [rf1, if_pos hlt, if_neg (show ¬ (c = 37 ∧ rs.isEmpty = true ∧ leastC cs < CLASSES) from fun z => h3.elim (fun q => q (by simpa using z.2.1)) (fun q => q ⟨by rw [hd_cons e, (u8 37).mp z.1]; rfl, by have : leastC cs < 16 := z.2.2; omega⟩))]
      by_cases h4 : c.toNat = 43 ∨ c.toNat = 45
      · rw [if_pos (show c = 43 ∨ c = 45 from h4.imp (fun z => (u8 43).mpr z) (fun z => (u8 45).mpr z)), rule_eq hc e h4]
        cases q : ruleFrom (cs.map fun c => c.1) (c == 43) (t.length + 1) (n + 1) ⟨false, [], false, [], false⟩ t with
        | error k => rfl
        | ok x =>
          obtain ⟨r, k⟩ := x
          have hk := ruleM_gt (rule_eq hc e h4 |>.trans q)
          dsimp only at hk ⊢
          have hd2 : (c :: t).drop (k - n) = b.drop k := by rw [← e, List.drop_drop]; congr 1; omega
          rw [hd2]
          exact rules_eq b cs hc F f k (r :: rs) (by omega) (by omega) (Or.inl (by simp))
      · rw [if_neg (show ¬ (c = 43 ∨ c = 45) from fun z => h4 (z.imp (fun z => (u8 43).mp z) (fun z => (u8 45).mp z)))]
        have : ruleM (cs.map fun c => c.1) b n = .error n := by
          unfold ruleM
          rw [if_pos]
          rw [hd_cons e, if_neg (by omega)]
          omega
        rw [this]
theorem isBegun_rev (v : Nat) (sp : List (Nat × Nat)) : isBegunM v sp.reverse = isBegunM v sp := List.any_reverse
theorem inSp_rev (v : Nat) (sp : List (Nat × Nat)) : inSp sp.reverse v = inSp sp v := List.any_reverse
theorem numL_rev (sp : List (Nat × Nat)) : ∀ (r : Bytes) (f : Option Nat) (k : Nat), numL sp.reverse f k r = numL sp f k r
  | [], _, _ => rfl
  | c :: r, f, k => by rw [numL, numL, isBegun_rev, numL_rev sp r]
theorem numM_rev (cls : List Nat) (r : Bytes) : numM (own cls.reverse) r = numM (own cls) r := by
  unfold numM own
  rw [List.map_reverse, numL_rev]
  cases numL (cls.map fun s => (s, s)) none 0 r with
  | error k => rfl
  | ok x =>
    obtain ⟨o, k⟩ := x
    cases o with
    | none => rfl
    | some v =>
      show (if inSp _ v = true then _ else _) = (if inSp _ v = true then _ else _)
      rw [inSp_rev]
theorem atomM_rev (cls : List Nat) (r : Bytes) : atomM cls.reverse r = atomM cls r := by
  cases r with
  | nil => rfl
  | cons c r =>
    rw [atomM, atomM, numM_rev]
    have e : (cls.reverse ≠ []) = (cls ≠ []) := by simp
    simp only [e]
theorem itemM_rev (cls : List Nat) (r : Bytes) : itemM cls.reverse r = itemM cls r := by unfold itemM; rw [atomM_rev]
theorem beforeL_rev (cls : List Nat) (b : Bytes) : ∀ (F n : Nat) (l : List Item), beforeL cls.reverse b F n l = beforeL cls b F n l
  | 0, _, _ => rfl
  | F + 1, n, l => by
    rw [beforeL, beforeL, itemM_rev]
    cases itemM cls (b.drop n) with
    | error k => rfl
    | ok x =>
      dsimp only
      rw [beforeL_rev cls b F]
theorem behindL_rev (cls : List Nat) (b : Bytes) : ∀ (F n : Nat) (l : List Item), behindL cls.reverse b F n l = behindL cls b F n l
  | 0, _, _ => rfl
  | F + 1, n, l => by
    rw [behindL, behindL, itemM_rev]
    cases itemM cls (b.drop (n + 1)) with
    | error k => rfl
    | ok x =>
      dsimp only
      rw [behindL_rev cls b F]
theorem ruleGo_rev (cls : List Nat) (b : Bytes) (cut st : Bool) (x : Except Nat (List Item × Nat)) : ruleGo cls.reverse b cut st x = ruleGo cls b cut st x := by
  cases x with
  | error k => rfl
  | ok x => show ruleEnd _ _ _ _ _ = ruleEnd _ _ _ _ _; rw [behindL_rev]
theorem ruleM_rev (cls : List Nat) (b : Bytes) (n : Nat) : ruleM cls.reverse b n = ruleM cls b n := by
  unfold ruleM
  simp only [beforeL_rev, ruleGo_rev]
theorem rulesL_rev (cls : List Nat) (b : Bytes) : ∀ (F n : Nat) (rs : List Rule), rulesL cls.reverse b F n rs = rulesL cls b F n rs
  | 0, _, _ => rfl
  | F + 1, n, rs => by
    rw [rulesL, rulesL, ruleM_rev]
    cases ruleM cls b n with
    | error k => rfl
    | ok x =>
      dsimp only
      rw [rulesL_rev cls b F]
theorem leastC_le {cs : Clss} (hc : ∀ s ∈ (cs.map fun c => c.1), s ≤ 15) : leastC cs ≤ 16 := by
  cases cs with
  | nil => show 0 ≤ 16; omega
  | cons c r =>
    have := hc c.1 (by simp)
    show c.1 + 1 ≤ 16
    omega
theorem whole_go (b : Bytes) : ∀ (F f n : Nat) (cs : Clss), b.length - n < F → b.length - n < f → (∀ s ∈ (cs.map fun c => c.1), s ≤ 15) →
    rulesFrom f n cs [] (b.drop n) = match classesL b F n cs with
      | .error k => .error k
      | .ok x => match rulesL (x.1.map fun c => c.1) b (b.length + 1) x.2 [] with
        | .error k => .error k
        | .ok rs => .ok ⟨x.1, rs⟩
  | 0, _, _, _, h, _, _ => by omega
  | _, 0, _, _, _, h, _ => by omega
  | F + 1, f + 1, n, cs, h1, h2, hc => by
    rw [classesL]
    by_cases h3 : hd b n = 37 ∧ leastC cs ≤ 15
    · rw [if_pos h3]
      cases e : b.drop n with
      | nil => have := hd_nil e; omega
      | cons c t =>
        have ht := drop_next e
        have hlt := drop_lt e
        have h37 : c.toNat = 37 := by have := hd_cons e; omega
        rw [rf1, if_pos (show c = 37 ∧ ([] : List Rule).isEmpty = true ∧ leastC cs < CLASSES from ⟨(u8 37).mpr h37, rfl, by show leastC cs < 16; omega⟩), ht]
        have hn := num_one (hi := 15) h3.2 (by decide) (b.drop (n + 1))
        show (match numberHere (begins (leastC cs) 15) (within (leastC cs) 15) (b.drop (n + 1)) with | .error k => _ | .ok (x, m) => _) = _
        rcases hn with q | ⟨v, k, g, q1, q2, q3, q4⟩
        · rw [q]
          cases q0 : numberHere (begins (leastC cs) 15) (within (leastC cs) 15) (b.drop (n + 1)) with
          | error k => rfl
          | ok x =>
            obtain ⟨x, m⟩ := x
            have hx := num_in (q.trans q0)
            rw [inSp_one] at hx
            have hx2 := within_le hx
            dsimp only
            rw [List.drop_drop]
            have hr := ranges_eq b (b.length + 1) ((b.drop (n + 1)).length + 1) (n + 1 + m) [] (by omega) (by rw [List.length_drop]; omega) (fun _ => by decide)
            rw [hr]
            cases q2 : lineEnd b (rangesL b (b.length + 1) (n + 1 + m) []) with
            | error k => rfl
            | ok y =>
              obtain ⟨l, k⟩ := y
              obtain ⟨hk, m2, e2, e3⟩ := lineEnd_gt q2
              have hge := rangesL_ge _ _ _ _ _ e2
              dsimp only at hk e3 hge ⊢
              have hd2 : (c :: b.drop (n + 1)).drop (k - n) = b.drop k := by rw [← ht, ← e, List.drop_drop]; congr 1; omega
              rw [hd2]
              exact whole_go b F f k ((x, l) :: cs) (by omega) (by omega) (by
                intro s hs
                rw [List.map_cons, List.mem_cons] at hs
                rcases hs with rfl | hs
                · exact hx2.2
                · exact hc s hs)
        · rw [q1, q2]
          dsimp only
          have e4 : hd b (n + 1 + k) = g.toNat := hd_at q3
          have := (digit_iff g).mp q4
          rw [rangesL, if_pos (Or.inl rfl), if_pos (by omega)]
          rfl
    · rw [if_neg h3]
      dsimp only
      rw [rules_eq b cs hc (b.length + 1) (f + 1) n [] (by omega) h2 (Or.inr h3), List.map_reverse, rulesL_rev]
/-- RULES' TEXTS -/
theorem wholeM_eq (b : Bytes) : wholeM b = rulesRead b := by
  have h := whole_go b (b.length + 1) (b.length + 1) 0 [] (by omega) (by omega) (by simp)
  exact h.symm
end Sm
/-! ## Bounds; the call rules -/
namespace Sm
open Fh
def longA : Atom → Bool
  | .lit t => decide (32 < t.length)
  | _ => false
def beyondI (l : List Item) : Bool := decide (16 < l.length) || l.any fun i => longA i.atom
def beyondM (R : Rules) : Bool := decide (256 < R.rules.length) || (R.classes.any (fun x => decide (256 < x.2.length)) || R.rules.any fun r => beyondI r.before || beyondI r.behind)
theorem small_eq (R : Rules) : R.small = !beyondM R := by
  have nle : ∀ a b : Nat, decide (a ≤ b) = !decide (b < a) := fun a b => by
    rw [← decide_not]
    exact decide_eq_decide.mpr (by omega)
  unfold Rules.small beyondM
  rw [nle, Bool.not_or, Bool.not_or]
  congr 1
  congr 1
  · rw [List.not_any_eq_all_not]
    congr 1
    funext x
    exact nle _ _
  · rw [List.not_any_eq_all_not]
    congr 1
    funext r
    have re : ∀ a b c d : Bool, (!((a || c) || (b || d))) = (!a && (!b && (!c && !d))) := by decide
    unfold beyondI
    rw [nle, nle, re, List.not_any_eq_all_not, List.not_any_eq_all_not, ← List.all_append]
    show (!decide (16 < r.before.length) && (!decide (16 < r.behind.length) && _)) = (!decide (16 < r.before.length) && (!decide (16 < r.behind.length) && _))
    refine congrArg (fun z => !decide (16 < r.before.length) && (!decide (16 < r.behind.length) && z)) ?_
    refine congrArg (fun z => List.all _ z) ?_
    funext i
    obtain ⟨a, lo, hi⟩ := i
    cases a with
    | any => rfl
    | cls k => rfl
    | lit t => exact nle _ _
end Sm
namespace Sm
open Fh
theorem classesND (b : Bytes) : ∀ (F n : Nat) (cs : Clss) (y : Clss × Nat), (cs.map fun c => c.1).Nodup → (∀ c ∈ cs, c.1 < leastC cs) → classesL b F n cs = .ok y → (y.1.map fun c => c.1).Nodup
  | 0, _, _, _, _, _, h => by cases h
  | F + 1, n, cs, y, h1, h2, h => by
    rw [classesL] at h
    by_cases c1 : hd b n = 37 ∧ leastC cs ≤ 15
    · rw [if_pos c1] at h
      cases q : numM [(leastC cs, 15)] (b.drop (n + 1)) with
      | error k => rw [q] at h; cases h
      | ok x =>
        have hin := num_in (v := x.1) (k := x.2) q
        rw [inSp_one] at hin
        have hin2 := within_le hin
        rw [q] at h
        dsimp only at h
        cases q2 : lineEnd b (rangesL b (b.length + 1) (n + 1 + x.2) []) with
        | error k => rw [q2] at h; cases h
        | ok z =>
          rw [q2] at h
          refine classesND b F _ ((x.1, z.1) :: cs) y ?_ ?_ h
          · rw [List.map_cons, List.nodup_cons]
            refine ⟨fun hm => ?_, h1⟩
            obtain ⟨c, hc, e⟩ := List.mem_map.mp hm
            have := h2 c hc
            have e2 : c.1 = x.1 := e
            omega
          · intro c hc
            show c.1 < x.1 + 1
            rw [List.mem_cons] at hc
            rcases hc with rfl | hc
            · exact Nat.lt_succ_self _
            · have := h2 c hc; omega
    · rw [if_neg c1] at h
      cases h
      show (cs.reverse.map fun c => c.1).Nodup
      rw [List.map_reverse]
      exact (List.reverse_perm _).nodup_iff.mpr h1
theorem wholeND {b : Bytes} {R : Rules} (h : wholeM b = .ok R) : (R.classes.map fun c => c.1).Nodup := by
  unfold wholeM at h
  cases q : classesL b (b.length + 1) 0 [] with
  | error k => rw [q] at h; cases h
  | ok x =>
    rw [q] at h
    dsimp only at h
    cases q2 : rulesL (x.1.map fun c => c.1) b (b.length + 1) x.2 [] with
    | error k => rw [q2] at h; cases h
    | ok rs =>
      rw [q2] at h
      cases h
      exact classesND b _ _ [] x .nil (fun c hc => nomatch hc) q
theorem lookup_nd {n : Nat} {rs : Rngs} : ∀ {cs : Clss}, (cs.map fun c => c.1).Nodup → (n, rs) ∈ cs → cs.lookup n = some rs
  | [], _, h => by cases h
  | (a, r) :: cs, hn, h => by
    rw [List.map_cons, List.nodup_cons] at hn
    rw [List.mem_cons] at h
    rcases h with h | h
    · cases h
      have e : (n == n) = true := beq_self_eq_true n
      simp only [List.lookup, e]
    · have hm : n ∈ cs.map fun c => c.1 := List.mem_map.mpr ⟨_, h, rfl⟩
      have e : (n == a) = false := by
        rw [beq_eq_false_iff_ne]
        rintro rfl
        exact hn.1 hm
      simp only [List.lookup, e]
      exact lookup_nd hn.2 h
/-- what rules(t) answers -/
def rulesAns (b : Bytes) : List Int := if 65536 < b.length then [-6] else match wholeM b with
  | .error k => [-5, (k : Int)]
  | .ok R => if beyondM R = true then [-6] else [(R.rules.length : Int)]
theorem rulesAns_eq (t : List Int) : PyYqfhba.rules t = rulesAns (FbNeutral.bytesOf t) := by
  show FbNeutral.numbers (FhSegs.answer (.rules (FbNeutral.bytesOf t))) = _
  generalize FbNeutral.bytesOf t = b
  show FbNeutral.numbers (if RULETEXT < b.length then FhSegs.says (-6) else _) = _
  unfold rulesAns
  by_cases h : 65536 < b.length
  · rw [if_pos h, if_pos (show RULETEXT < b.length from h)]; rfl
  · rw [if_neg h, if_neg (show ¬ RULETEXT < b.length from h), ← wholeM_eq]
    cases wholeM b with
    | error k => rfl
    | ok R =>
      dsimp only
      rw [small_eq]
      cases beyondM R <;> rfl
end Sm
/-! # Data in the heap -/
namespace Sr
open PySem PySem.Spec PyProof.Rows L2
def bI (b : List UInt8) : List Int := b.map fun c => (c.toNat : Int)
theorem bI_len (b : List UInt8) : (bI b).length = b.length := List.length_map ..
theorem bI_at {b : List UInt8} {i : Nat} {c : UInt8} (h : b[i]? = some c) : (bI b)[i]? = some (c.toNat : Int) := by
  unfold bI; rw [List.getElem?_map, h]; rfl
theorem bI_app (b c : List UInt8) : bI (b ++ c) = bI b ++ bI c := List.map_append ..
/-- a list of whole numbers at a -/
abbrev LI (K : PySem.W.Frag) (H : Hp) (a : Addr) (ns : List Int) : Prop := SqL K H a (ns.map V.int)
theorem at_int {ns : List Int} {i : Int} {j : Nat} {z : Int} (e : i = (j : Int)) (h : ns[j]? = some z) : atI (ns.map V.int) i = some (.int z) := by
  subst e
  refine atI_nat ?_
  rw [List.getElem?_map, h]; rfl
theorem map_int_len (ns : List Int) : (ns.map V.int).length = ns.length := List.length_map ..
mutual
theorem dp_same {K : PySem.W.Frag} {H H' : Hp} (s : Same H H') : ∀ {v : V} {d : PyData}, Dp K H v d → Dp K H' v d
  | _, _, .non => .non
  | _, _, .bl b => .bl b
  | _, _, .int i => .int i
  | _, _, .str x => .str x
  | _, _, .lst h hs => .lst (same_l s h) (dps_same s hs)
  | _, _, .tup h hs => .tup (same_t s h) (dps_same s hs)
theorem dps_same {K : PySem.W.Frag} {H H' : Hp} (s : Same H H') : ∀ {vs : List V} {ds : List PyData}, DpAll K H vs ds → DpAll K H' vs ds
  | _, _, .nil => .nil
  | _, _, .cons h hs => .cons (dp_same s h) (dps_same s hs)
end
/-- tuples stand, and what is frozen -/
structure Kt (H H' : Hp) : Prop where
  t : ∀ p xs, H p = some (.tup xs) → H' p = some (.tup xs)
  f : ∀ p o u, H p = some (.frz o u) → H' p = some (.frz o u)
theorem Kt.refl (H : Hp) : Kt H H := ⟨fun _ _ h => h, fun _ _ _ h => h⟩
theorem Kt.trans {H H1 H2 : Hp} (a : Kt H H1) (b : Kt H1 H2) : Kt H H2 := ⟨fun p xs h => b.t p xs (a.t p xs h), fun p o u h => b.f p o u (a.f p o u h)⟩
theorem Kt.same {H H' : Hp} (s : Same H H') : Kt H H' := ⟨fun p xs h => s p _ h, fun p o u h => s p _ h⟩
def isTF : HO → Bool
  | .tup _ => true
  | .frz _ _ => true
  | _ => false
theorem Kt.upd {H : Hp} {a : Addr} {o o' : HO} (h : H a = some o) (n : isTF o = false) : Kt H (upd H a o') :=
  ⟨fun p xs hp => by rw [upd_ne (fun z => by rw [z, h] at hp; cases hp; cases n)]; exact hp, fun p q u hp => by rw [upd_ne (fun z => by rw [z, h] at hp; cases hp; cases n)]; exact hp⟩
theorem Kt.new {H : Hp} {a : Addr} {o' : HO} (h : H a = none) : Kt H (L2.upd H a o') := Kt.same (same_new h)
theorem Kt.st {K : PySem.W.Frag} {H H' : Hp} {a : Addr} {xs : List V} (k : Kt H H') (h : SqT K H a xs) : SqT K H' a xs := by
  rcases h with h | h
  · refine Or.inl ?_
    rcases h with h | ⟨o, h⟩
    · exact Or.inl (k.t a _ h)
    · exact Or.inr ⟨o, k.f a _ _ h⟩
  · exact Or.inr h
/-! data without a list in it -/
mutual
def tupD : PyData → Bool
  | .none => true
  | .bool _ => true
  | .int _ => true
  | .str _ => true
  | .tuple xs => tupDs xs
  | _ => false
def tupDs : List PyData → Bool
  | [] => true
  | x :: r => tupD x && tupDs r
end
theorem tupDs_map {α : Type} {f : α → PyData} (h : ∀ a, tupD (f a) = true) : ∀ l : List α, tupDs (l.map f) = true
  | [] => rfl
  | a :: l => by rw [List.map_cons, tupDs, h a, tupDs_map h l]; rfl
mutual
theorem Kt.d {K : PySem.W.Frag} {H H' : Hp} (k : Kt H H') : ∀ {v : V} {d : PyData}, tupD d = true → Dp K H v d → Dp K H' v d
  | _, _, _, .non => .non
  | _, _, _, .bl b => .bl b
  | _, _, _, .int i => .int i
  | _, _, _, .str x => .str x
  | _, _, z, .lst h hs => by simp [tupD] at z
  | _, _, z, .tup h hs => .tup (k.st h) (k.ds (by simpa [tupD] using z) hs)
theorem Kt.ds {K : PySem.W.Frag} {H H' : Hp} (k : Kt H H') : ∀ {vs : List V} {ds : List PyData}, tupDs ds = true → DpAll K H vs ds → DpAll K H' vs ds
  | _, _, _, .nil => .nil
  | _, _, z, .cons h hs => by
    simp only [tupDs, Bool.and_eq_true] at z
    exact .cons (k.d z.1 h) (k.ds z.2 hs)
end
theorem dp_ints {K : PySem.W.Frag} {H : Hp} : ∀ ns : List Int, DpAll K H (ns.map V.int) (ns.map PyData.int)
  | [] => .nil
  | n :: r => .cons (.int n) (dp_ints r)
theorem dps_ints {K : PySem.W.Frag} {H : Hp} : ∀ {ns : List Int} {vs : List V}, DpAll K H vs (ns.map PyData.int) → vs = ns.map V.int
  | [], _, .nil => rfl
  | n :: r, _, .cons h hs => by
    cases h
    rw [dps_ints hs]; rfl
theorem dps_len {K : PySem.W.Frag} {H : Hp} : ∀ {vs : List V} {ds : List PyData}, DpAll K H vs ds → vs.length = ds.length
  | _, _, .nil => rfl
  | _, _, .cons _ hs => by rw [List.length_cons, List.length_cons, dps_len hs]
theorem dps_get {K : PySem.W.Frag} {H : Hp} : ∀ {vs : List V} {ds : List PyData} {i : Nat} {d : PyData}, DpAll K H vs ds → ds[i]? = some d → ∃ v, vs[i]? = some v ∧ Dp K H v d
  | _, _, i, _, .nil, e => by simp at e
  | _, _, 0, _, .cons h _, e => by
    simp only [List.getElem?_cons_zero, Option.some.injEq] at e
    subst e
    exact ⟨_, rfl, h⟩
  | _, _, i + 1, _, .cons _ hs, e => by
    simp only [List.getElem?_cons_succ] at e
    obtain ⟨v, e2, h⟩ := dps_get hs e
    exact ⟨v, by simpa using e2, h⟩
theorem dps_app {K : PySem.W.Frag} {H : Hp} : ∀ {vs ws : List V} {ds es : List PyData}, DpAll K H vs ds → DpAll K H ws es → DpAll K H (vs ++ ws) (ds ++ es)
  | _, _, _, _, .nil, k => k
  | _, _, _, _, .cons h hs, k => .cons h (dps_app hs k)
theorem dps_one {K : PySem.W.Frag} {H : Hp} {v : V} {d : PyData} (h : Dp K H v d) : DpAll K H [v] [d] := .cons h .nil
theorem dps_drop {K : PySem.W.Frag} {H : Hp} : ∀ {vs : List V} {ds : List PyData} (n : Nat), DpAll K H vs ds → DpAll K H (vs.drop n) (ds.drop n)
  | _, _, 0, h => h
  | _, _, _ + 1, .nil => .nil
  | _, _, n + 1, .cons _ hs => dps_drop n hs
theorem dps_take {K : PySem.W.Frag} {H : Hp} : ∀ {vs : List V} {ds : List PyData} (n : Nat), DpAll K H vs ds → DpAll K H (vs.take n) (ds.take n)
  | _, _, 0, _ => .nil
  | _, _, _ + 1, .nil => .nil
  | _, _, n + 1, .cons h hs => .cons h (dps_take n hs)
theorem shaped_ints (ns : List Int) : SeqAt.shaped (.list (ns.map PyData.int)) = true := PySem.W.ke_shaped_ints ns
theorem eqv_ints : ∀ ns ms : List Int, PyData.eqvAll (ns.map PyData.int) (ms.map PyData.int) = decide (ns = ms)
  | [], [] => rfl
  | [], _ :: _ => by simp [PyData.eqvAll]
  | _ :: _, [] => by simp [PyData.eqvAll]
  | n :: ns, m :: ms => by
    rw [List.map_cons, List.map_cons, PyData.eqvAll, eqv_ints ns ms, PyData.eqv]
    by_cases e : n = m
    · subst e; by_cases f : ns = ms <;> simp [f]
    · simp [e]
section
variable {K : PySem.W.Frag} {H : Hp} {Q : VK}
/-- xs == ys, two lists of whole numbers -/
theorem u_eqL {a b : Addr} {ns ms : List Int} (ha : LI K H a ns) (hb : LI K H b ms) (h : Q (.bl (decide (ns = ms))) H) : rEqD K (.ref a) (.ref b) H Q := by
  refine ⟨_, _, .lst ha (dp_ints ns), .lst hb (dp_ints ms), shaped_ints ns, shaped_ints ms, ?_⟩
  have e : PyData.eqv (.list (ns.map PyData.int)) (.list (ms.map PyData.int)) = decide (ns = ms) := by rw [PyData.eqv]; exact eqv_ints ns ms
  rw [e]
  exact h
end
theorem li_of {K : PySem.W.Frag} {H : Hp} {a : Addr} {ns : List Int} (h : H a = some (.lst (ns.map V.int))) : LI K H a ns := Or.inl (Or.inl h)
end Sr
namespace Sr
open PySem PySem.Spec PyProof.Rows L2
theorem bytes_of {l : List Int} (h : l.all (PySem.W.Codec.inInt 0 255) = true) : ∃ b : List UInt8, bI b = l ∧ (l.map fun (z : Int) => UInt8.ofNat z.toNat) = b := by
  refine ⟨_, ?_, rfl⟩
  rw [List.all_eq_true] at h
  unfold bI
  rw [List.map_map]
  refine (List.map_congr_left fun z hz => ?_).trans (List.map_id l)
  have q := h z hz
  unfold PySem.W.Codec.inInt at q
  rw [Bool.and_eq_true, decide_eq_true_eq, decide_eq_true_eq] at q
  show ((UInt8.ofNat z.toNat).toNat : Int) = z
  rw [UInt8.toNat_ofNat', Nat.mod_eq_of_lt (by omega)]
  omega
end Sr
namespace Sr
open PySem PySem.Spec PyProof.Rows L2
def topS (i : Nat) : Stmt := PySem.Challenge.pw_segmentrules_s01_rules.main.body.getD i (.Pass ⟨0, 0, 0, 0⟩)
abbrev s_further : Stmt := topS 2
theorem sc_further : FnScope ["octet"] ["octet"] (defScope s_further) := ⟨rfl, rfl, rfl, by decide +kernel, rfl, by decide +kernel, by decide +kernel⟩
abbrev s_least_behind : Stmt := topS 3
theorem sc_least_behind : FnScope ["got"] ["got"] (defScope s_least_behind) := ⟨rfl, rfl, rfl, by decide +kernel, rfl, by decide +kernel, by decide +kernel⟩
abbrev s_most_behind : Stmt := topS 4
theorem sc_most_behind : FnScope ["got"] ["got"] (defScope s_most_behind) := ⟨rfl, rfl, rfl, by decide +kernel, rfl, by decide +kernel, by decide +kernel⟩
abbrev s_code_of : Stmt := topS 5
theorem sc_code_of : FnScope ["got", "code", "octet"] ["got"] (defScope s_code_of) := ⟨rfl, rfl, rfl, by decide +kernel, rfl, by decide +kernel, by decide +kernel⟩
abbrev s_character_at : Stmt := topS 6
theorem sc_character_at : FnScope ["octets", "at", "end", "many", "got", "place"] ["octets", "at", "end"] (defScope s_character_at) := ⟨rfl, rfl, rfl, by decide +kernel, rfl, by decide +kernel, by decide +kernel⟩
abbrev s_can_begin : Stmt := topS 25
theorem sc_can_begin : FnScope ["number", "low", "high", "first", "last"] ["number", "low", "high"] (defScope s_can_begin) := ⟨rfl, rfl, rfl, by decide +kernel, rfl, by decide +kernel, by decide +kernel⟩
abbrev s_is_begun : Stmt := topS 26
theorem sc_is_begun : FnScope ["number", "spans", "low", "high"] ["number", "spans"] (defScope s_is_begun) := ⟨rfl, rfl, rfl, by decide +kernel, rfl, by decide +kernel, by decide +kernel⟩
abbrev s_read_rules : Stmt := topS 28
theorem sc_read_rules : FnScope ["octets", "fault"] ["octets"] (defScope s_read_rules) := ⟨rfl, rfl, rfl, by decide +kernel, rfl, by decide +kernel, by decide +kernel⟩
abbrev s_are_items_beyond : Stmt := topS 29
theorem sc_are_items_beyond : FnScope ["items", "atom", "least", "most"] ["items"] (defScope s_are_items_beyond) := ⟨rfl, rfl, rfl, by decide +kernel, rfl, by decide +kernel, by decide +kernel⟩
abbrev s_is_beyond : Stmt := topS 30
theorem sc_is_beyond : FnScope ["ruling", "classes", "listed", "number", "is_cut", "wants_begin", "before", "behind", "wants_end"] ["ruling"] (defScope s_is_beyond) := ⟨rfl, rfl, rfl, by decide +kernel, rfl, by decide +kernel, by decide +kernel⟩
abbrev s_rules : Stmt := topS 35
theorem sc_rules : FnScope ["t", "ruling", "fault"] ["t"] (defScope s_rules) := ⟨rfl, rfl, rfl, by decide +kernel, rfl, by decide +kernel, by decide +kernel⟩
abbrev s_Fault___init__ : Stmt := inClass (topS 24) 0
theorem sc_Fault___init__ : FnScope ["self", "place"] ["self", "place"] (defScope s_Fault___init__) := ⟨rfl, rfl, rfl, by decide +kernel, rfl, by decide +kernel, by decide +kernel⟩
abbrev s_Reading___init__ : Stmt := inClass (topS 27) 0
theorem sc_Reading___init__ : FnScope ["self", "octets"] ["self", "octets"] (defScope s_Reading___init__) := ⟨rfl, rfl, rfl, by decide +kernel, rfl, by decide +kernel, by decide +kernel⟩
abbrev s_Reading_here : Stmt := inClass (topS 27) 1
theorem sc_Reading_here : FnScope ["self"] ["self"] (defScope s_Reading_here) := ⟨rfl, rfl, rfl, by decide +kernel, rfl, by decide +kernel, by decide +kernel⟩
abbrev s_Reading_take : Stmt := inClass (topS 27) 2
theorem sc_Reading_take : FnScope ["self", "octet"] ["self", "octet"] (defScope s_Reading_take) := ⟨rfl, rfl, rfl, by decide +kernel, rfl, by decide +kernel, by decide +kernel⟩
abbrev s_Reading_number : Stmt := inClass (topS 27) 3
theorem sc_Reading_number : FnScope ["self", "spans", "found", "more", "low", "high"] ["self", "spans"] (defScope s_Reading_number) := ⟨rfl, rfl, rfl, by decide +kernel, rfl, by decide +kernel, by decide +kernel⟩
abbrev s_Reading_ranges : Stmt := inClass (topS 27) 4
theorem sc_Reading_ranges : FnScope ["self", "found", "least", "low", "high"] ["self"] (defScope s_Reading_ranges) := ⟨rfl, rfl, rfl, by decide +kernel, rfl, by decide +kernel, by decide +kernel⟩
abbrev s_Reading_read_classes : Stmt := inClass (topS 27) 5
theorem sc_Reading_read_classes : FnScope ["self", "least", "number"] ["self"] (defScope s_Reading_read_classes) := ⟨rfl, rfl, rfl, by decide +kernel, rfl, by decide +kernel, by decide +kernel⟩
abbrev s_Reading_certain : Stmt := inClass (topS 27) 6
theorem sc_Reading_certain : FnScope ["self", "codes", "code", "behind"] ["self"] (defScope s_Reading_certain) := ⟨rfl, rfl, rfl, by decide +kernel, rfl, by decide +kernel, by decide +kernel⟩
abbrev s_Reading_atom : Stmt := inClass (topS 27) 7
theorem sc_Reading_atom : FnScope ["self", "sign", "number"] ["self"] (defScope s_Reading_atom) := ⟨rfl, rfl, rfl, by decide +kernel, rfl, by decide +kernel, by decide +kernel⟩
abbrev s_Reading_item : Stmt := inClass (topS 27) 8
theorem sc_Reading_item : FnScope ["self", "atom", "least"] ["self"] (defScope s_Reading_item) := ⟨rfl, rfl, rfl, by decide +kernel, rfl, by decide +kernel, by decide +kernel⟩
abbrev s_Reading_items_before : Stmt := inClass (topS 27) 9
theorem sc_Reading_items_before : FnScope ["self", "found"] ["self"] (defScope s_Reading_items_before) := ⟨rfl, rfl, rfl, by decide +kernel, rfl, by decide +kernel, by decide +kernel⟩
abbrev s_Reading_items_behind : Stmt := inClass (topS 27) 10
theorem sc_Reading_items_behind : FnScope ["self", "found"] ["self"] (defScope s_Reading_items_behind) := ⟨rfl, rfl, rfl, by decide +kernel, rfl, by decide +kernel, by decide +kernel⟩
abbrev s_Reading_read_rule : Stmt := inClass (topS 27) 11
theorem sc_Reading_read_rule : FnScope ["self", "is_cut", "wants_begin", "before", "behind", "wants_end"] ["self"] (defScope s_Reading_read_rule) := ⟨rfl, rfl, rfl, by decide +kernel, rfl, by decide +kernel, by decide +kernel⟩
abbrev s_Reading_whole : Stmt := inClass (topS 27) 12
theorem sc_Reading_whole : FnScope ["self", "found"] ["self"] (defScope s_Reading_whole) := ⟨rfl, rfl, rfl, by decide +kernel, rfl, by decide +kernel, by decide +kernel⟩
structure Txt (K : PySem.W.Frag) (mg : Str → Option Value) where
  C : Addr
  CF : Addr
  cl_Reading : Cls K C
  na_octets : NoAttr K C "octets"
  na_at : NoAttr K C "at"
  na_classes : NoAttr K C "classes"
  g_Reading : mg "Reading" = some (.ref C)
  g_Fault : mg "Fault" = some (.ref CF)
  ox : OexC K CF
  xf : XfC K CF
  xp : PySem.W.findIn K (.ref CF) "place" = some none
  exm : PySem.W.exmOne K (.ref CF) (.ref CF) = some true
  aI : Addr
  fI : FuncData
  FI : Fun K "__init__" "Fault.__init__" s_Fault___init__ aI fI
  bI : Binds K fI ["self", "place"] []
  ix : PySem.W.findIn K (.ref CF) "__init__" = some (some (.ref aI))
  tx : PySem.W.typeIn K (.ref aI) = some (.type "function")
  m_Reading___init__ : Mt K C "__init__" "Reading.__init__" s_Reading___init__ ["self", "octets"]
  m_Reading_here : Mt K C "here" "Reading.here" s_Reading_here ["self"]
  m_Reading_take : Mt K C "take" "Reading.take" s_Reading_take ["self", "octet"]
  m_Reading_number : Mt K C "number" "Reading.number" s_Reading_number ["self", "spans"]
  m_Reading_ranges : Mt K C "ranges" "Reading.ranges" s_Reading_ranges ["self"]
  m_Reading_read_classes : Mt K C "read_classes" "Reading.read_classes" s_Reading_read_classes ["self"]
  m_Reading_certain : Mt K C "certain" "Reading.certain" s_Reading_certain ["self"]
  m_Reading_atom : Mt K C "atom" "Reading.atom" s_Reading_atom ["self"]
  m_Reading_item : Mt K C "item" "Reading.item" s_Reading_item ["self"]
  m_Reading_items_before : Mt K C "items_before" "Reading.items_before" s_Reading_items_before ["self"]
  m_Reading_items_behind : Mt K C "items_behind" "Reading.items_behind" s_Reading_items_behind ["self"]
  m_Reading_read_rule : Mt K C "read_rule" "Reading.read_rule" s_Reading_read_rule ["self"]
  m_Reading_whole : Mt K C "whole" "Reading.whole" s_Reading_whole ["self"]
  mk_Reading : Mk K C m_Reading___init__.a
  c_BLANK : ∃ t, mg "BLANK" = some (.int 32 t)
  c_ANY : ∃ t, mg "ANY" = some (.int 0 t)
  c_OF_CLASS : ∃ t, mg "OF_CLASS" = some (.int 1 t)
  c_CERTAIN : ∃ t, mg "CERTAIN" = some (.int 2 t)
  c_GREATEST : ∃ t, mg "GREATEST" = some (.int 1114111 t)
  c_LAST_CLASS : ∃ t, mg "LAST_CLASS" = some (.int 15 t)
  c_MOST_TIMES : ∃ t, mg "MOST_TIMES" = some (.int 32 t)
  c_LINE_END : ∃ t, mg "LINE_END" = some (.int 10 t)
  c_QUOTE : ∃ t, mg "QUOTE" = some (.int 34 t)
  c_CLASS_SIGN : ∃ t, mg "CLASS_SIGN" = some (.int 37 t)
  c_STAR : ∃ t, mg "STAR" = some (.int 42 t)
  c_PLUS : ∃ t, mg "PLUS" = some (.int 43 t)
  c_MINUS : ∃ t, mg "MINUS" = some (.int 45 t)
  c_DOT : ∃ t, mg "DOT" = some (.int 46 t)
  c_BEGINNING : ∃ t, mg "BEGINNING" = some (.int 94 t)
  c_BAR : ∃ t, mg "BAR" = some (.int 124 t)
  c_ENDING : ∃ t, mg "ENDING" = some (.int 36 t)
  c_MOST_RULES_TEXT : ∃ t, mg "MOST_RULES_TEXT" = some (.int 65536 t)
  c_TOO_GREAT : ∃ t, mg "TOO_GREAT" = some (.int (-6) t)
  c_WRONG : ∃ t, mg "WRONG" = some (.int (-5) t)
  b_len : mg "len" = none
  b_max : mg "max" = none
  b_tuple : mg "tuple" = none
  b_list : mg "list" = none
  b_range : mg "range" = none
  b_ValueError : mg "ValueError" = none
  f_further : Fn K mg "further" s_further ["octet"]
  f_least_behind : Fn K mg "least_behind" s_least_behind ["got"]
  f_most_behind : Fn K mg "most_behind" s_most_behind ["got"]
  f_code_of : Fn K mg "code_of" s_code_of ["got"]
  f_character_at : Fn K mg "character_at" s_character_at ["octets", "at", "end"]
  f_can_begin : Fn K mg "can_begin" s_can_begin ["number", "low", "high"]
  f_is_begun : Fn K mg "is_begun" s_is_begun ["number", "spans"]
  f_read_rules : Fn K mg "read_rules" s_read_rules ["octets"]
  f_are_items_beyond : Fn K mg "are_items_beyond" s_are_items_beyond ["items"]
  f_is_beyond : Fn K mg "is_beyond" s_is_beyond ["ruling"]
  f_rules : Fn K mg "rules" s_rules ["t"]
end Sr
local macro_rules | `(tactic| walk_at "u1") => `(tactic| first
  | with_reducible (first
    | apply Sr.u_seq | apply Sr.u_if | apply Sr.u_next | apply Sr.u_ret | apply Sr.u_asg | apply Sr.u_drop | apply Sr.u_gn
    | apply Sr.u_c | apply Sr.u_op | apply Sr.u_un | apply Sr.u_U | apply Sr.u_I0 | apply Sr.u_eqI | apply Sr.u_neI | apply Sr.u_test | apply Sr.u_tB | apply Sr.u_bl
    | apply Sr.u_and | apply Sr.u_or | apply Sr.u_not | apply Sr.u_ifx | apply Sr.u_chain | apply Sr.u_nil | apply Sr.u_cons | apply Sr.u_tup | apply Sr.u_lst | apply Sr.u_cb | apply Sr.u_call
    | apply Sr.u_sl | apply Sr.u_part | apply Sr.u_nopart | apply Sr.u_pint | apply Sr.u_for | apply Sr.u_iL | apply Sr.u_iT | apply Sr.u_iR1 | apply Sr.u_iR2 | apply Sr.u_iE | apply Sr.u_iZ | apply Sr.u_lc | apply Sr.u_yes | apply Sr.u_gc | apply Sr.u_g0 | apply Sr.u_dnewK | apply Sr.u_dnewT | apply Sr.u_dput | apply Sr.u_dget | apply Sr.u_din | apply Sr.u_dnin | apply Sr.u_methS | apply Sr.u_make | apply Sr.u_xf | apply Sr.u_fld | apply Sr.u_sfld | apply Sr.u_meth | apply Sr.u_rz | apply Sr.u_andV | apply Sr.u_orV | apply Sr.u_notV | apply Sr.u_par | apply Sr.u_par3 | apply Sr.u_vw | apply Sr.u_vwz | apply Sr.u_app
    | apply Sr.ite_t | apply Sr.ite_f | apply Sr.ite_nt | apply Sr.ite_nf)
  | ((with_reducible refine' Sr.u_var ?uve ?_); (case uve => exact rfl)))
local macro_rules | `(tactic| walk_at "u") => `(tactic| repeat (walk_at "u1"))
local macro_rules | `(tactic| walk_at "ui") => `(tactic| ((repeat ((fail_if_success (with_reducible refine Sr.id_if ?_)); walk_at "u1")); refine Sr.u_if ?_))
local macro_rules | `(tactic| walk_at "un") => `(tactic| repeat ((fail_if_success (with_reducible refine Sr.id_seq ?_)); walk_at "u1"))
local macro_rules | `(tactic| walk_at "us") => `(tactic| repeat' (first | walk_at "u1" | ((with_reducible refine Sr.ite_d ?_ ?_) <;> intro _) | ((with_reducible refine Sr.ite_nd ?_ ?_) <;> intro _)))
namespace Sr
open PySem PySem.Spec PyProof.Rows L2
open Fh (Bytes)
section
variable {P : Program} {w : World} {K : PySem.W.Frag} {mg : Str → Option Value} {base : Heap}
def sp_further (K : PySem.W.Frag) : Sp := fun vs H Q _ => ∃ i : Int, vs = [.int i] ∧ ∀ r, r = Sm.furtherM i → Q (.int r) H
theorem ok_further (T : Txt K mg) : FnOk P w K mg base CX0 1 T.f_further.a T.f_further.fd ["octet"] (sp_further K) := by
  refine T.f_further.F.ok sc_further (fun vs H Q E h => ?_) (fun cdv A outer s H vs Q E hr h => ⟨_, (pss_cons (ps_if (pt_chain op_le op_le pe_int (pv 0) pe_int) (pss_one (ps_ret pe_int)) pss_nil)
 (pss_cons (ps_if (pt_chain op_le op_le pe_int (pv 0) pe_int) (pss_one (ps_ret pe_int)) pss_nil)
 (pss_cons (ps_if (pt_chain op_le op_le pe_int (pv 0) pe_int) (pss_one (ps_ret pe_int)) pss_nil)
 (pss_one (ps_ret (pe_ifExp (pt_chain op_le op_le pe_int (pv 0) pe_int) pe_int (pe_un un_neg pe_int))))))), ?_⟩)
  · obtain ⟨_, rfl, _⟩ := h; rfl
  · obtain ⟨i, rfl, k⟩ := h
    walk_at "us"
    all_goals (refine k _ ?_; simp only [Sm.furtherM]; omega)
/-- of a list of bytes that isn't empty -/
def sp_got (f : Bytes → Int) (K : PySem.W.Frag) : Sp := fun vs H Q _ => ∃ (a : Addr) (c : UInt8) (b : Bytes), vs = [.ref a] ∧ LI K H a (bI (c :: b)) ∧ b.length ≤ 3 ∧ ∀ H' r, Same H H' → r = f (c :: b) → Q (.int r) H'
def sp_least_behind := sp_got Sm.leastM
def sp_most_behind := sp_got Sm.mostM
def sp_code_of := sp_got Sm.codeM
theorem leastM_long {b : Bytes} (h : 1 < b.length) : Sm.leastM b = 128 := by
  match b, h with
  | _ :: _ :: _, _ => rfl
theorem one_of {c : UInt8} {b : Bytes} (h : ¬ (1 : Int) < ((c :: b).length : Nat)) : b = [] := by
  cases b with
  | nil => rfl
  | cons x y => exact absurd (show (1 : Int) < ((c :: x :: y).length : Nat) by simp only [List.length_cons]; omega) h
theorem ok_least_behind (T : Txt K mg) : FnOk P w K mg base CX0 1 T.f_least_behind.a T.f_least_behind.fd ["got"] (sp_least_behind K) := by
  refine T.f_least_behind.F.ok sc_least_behind (fun vs H Q E h => ?_) (fun cdv A outer s H vs Q E hr h => ⟨_, (pss_cons (ps_if (pt_cmpR op_gt (pe_callB (cr_len K) rfl T.b_len PySem.boot_len (pa_cons (pv 0) pa_nil)) pe_int (nomark _)) (pss_one (ps_ret pe_int)) pss_nil)
 (pss_cons (ps_if (pt_cmpR (inK K) (pe_ix (ixLK K) (pv 0) pe_int (fun _ _ => rfl)) (pe_tup (pa_cons pe_int (pa_cons pe_int pa_nil))) (by rfl)) (pss_one (ps_ret pe_int)) pss_nil)
 (pss_one (ps_ret (pe_ifExp (pt_cmpR op_eq (pe_ix (ixLK K) (pv 0) pe_int (fun _ _ => rfl)) pe_int (nomark _)) pe_int pe_int))))), ?_⟩)
  · obtain ⟨_, _, _, rfl, _⟩ := h; rfl
  · obtain ⟨a, c, b, rfl, hL, hb, k⟩ := h
    walk_at "u"
    refine u_lenL hL ?_
    walk_at "u"
    rw [map_int_len, bI_len]
    refine ite_d (fun h1 => ?_) (fun h1 => ?_)
    · walk_at "u"
      exact k _ _ (Same.refl _) (leastM_long (by omega)).symm
    · walk_at "u"
      obtain rfl := one_of h1
      refine u_ixL hL (at_int (j := 0) rfl (bI_at rfl)) ?_
      walk_at "u"
      refine ⟨by show 2 ≤ sizeLine; decide, fun p hp => ?_⟩
      refine u_in (Or.inr (SqT.of upd_same)) rfl rfl ?_
      walk_at "u"
      refine ite_b (fun h2 => ?_) (fun h2 => ?_)
      · walk_at "u"
        refine k _ _ (same_new hp) ?_
        simp only [inV, List.any_cons, eqV, List.any_nil, Bool.or_false, Bool.or_eq_true, beq_iff_eq] at h2
        simp only [Sm.leastM]
        rw [if_pos (by omega)]
      · walk_at "u"
        refine u_ixL (same_l (same_new hp) hL) (at_int (j := 0) rfl (bI_at rfl)) ?_
        walk_at "us"
        all_goals (
          refine k _ _ (same_new hp) ?_
          simp only [inV, List.any_cons, eqV, List.any_nil, Bool.or_false, Bool.or_eq_false_iff, beq_eq_false_iff_ne] at h2
          simp only [Sm.leastM]
          rw [if_neg (by omega)]
          split <;> omega)
theorem le3 {α : Type} : ∀ (b : List α), b.length ≤ 3 → b = [] ∨ (∃ x, b = [x]) ∨ (∃ x y, b = [x, y]) ∨ ∃ x y z, b = [x, y, z]
  | [], _ => Or.inl rfl
  | [x], _ => Or.inr (Or.inl ⟨x, rfl⟩)
  | [x, y], _ => Or.inr (Or.inr (Or.inl ⟨x, y, rfl⟩))
  | [x, y, z], _ => Or.inr (Or.inr (Or.inr ⟨x, y, z, rfl⟩))
  | _ :: _ :: _ :: _ :: _, h => by simp only [List.length_cons] at h; omega
theorem bI_two {b : Bytes} (h : bI b = [239, 191]) : ∃ c d : UInt8, b = [c, d] ∧ c.toNat = 239 ∧ d.toNat = 191 := by
  match b, h with
  | [c, d], h =>
    have h1 : (c.toNat : Int) = 239 ∧ (d.toNat : Int) = 191 := by
      have : [(c.toNat : Int), (d.toNat : Int)] = [239, 191] := h
      simpa using this
    exact ⟨c, d, rfl, by omega, by omega⟩
  | [], h => cases h
  | [_], h => exact absurd (congrArg List.length h) (by simp [bI])
  | _ :: _ :: _ :: _, h => exact absurd (congrArg List.length h) (by simp [bI])
theorem ok_most_behind (T : Txt K mg) : FnOk P w K mg base CX0 1 T.f_most_behind.a T.f_most_behind.fd ["got"] (sp_most_behind K) := by
  refine T.f_most_behind.F.ok sc_most_behind (fun vs H Q E h => ?_) (fun cdv A outer s H vs Q E hr h => ⟨_, (pss_cons (ps_if (pt_cmpR op_eq (pe_callB (cr_len K) rfl T.b_len PySem.boot_len (pa_cons (pv 0) pa_nil)) pe_int (nomark _)) (pss_cons (ps_if (pt_cmpR op_eq (pe_ix (ixLK K) (pv 0) pe_int (fun _ _ => rfl)) pe_int (nomark _)) (pss_one (ps_ret pe_int)) pss_nil)
 (pss_one (ps_ret (pe_ifExp (pt_cmpR op_eq (pe_ix (ixLK K) (pv 0) pe_int (fun _ _ => rfl)) pe_int (nomark _)) pe_int pe_int)))) pss_nil)
 (pss_cons (ps_if (pt_cmpR (eqDK K hr.units) (pv 0) (pe_lst (pa_cons pe_int (pa_cons pe_int pa_nil))) (nomark _)) (pss_one (ps_ret pe_int)) pss_nil)
 (pss_cons (ps_if (PW.pt (pw_and (pt_cmpR op_eq (pe_callB (cr_len K) rfl T.b_len PySem.boot_len (pa_cons (pv 0) pa_nil)) pe_int (nomark _)) (pw_and (pt_cmpR op_eq (pe_op op_and (pe_ix (ixLK K) (pv 0) pe_int (fun _ _ => rfl)) pe_int) pe_int (nomark _)) (pw_and1 (pt_cmpR op_eq (pe_ix (ixLK K) (pv 0) pe_int (fun _ _ => rfl)) pe_int (nomark _)))))) (pss_one (ps_ret pe_int)) pss_nil)
 (pss_one (ps_ret pe_int))))), ?_⟩)
  · obtain ⟨_, _, _, rfl, _⟩ := h; rfl
  · obtain ⟨a, c, b, rfl, hL, hb, k⟩ := h
    walk_at "u"
    refine u_lenL hL ?_
    walk_at "u"
    rw [map_int_len, bI_len]
    refine ite_d (fun h1 => ?_) (fun h1 => ?_)
    · obtain rfl : b = [] := one_of (c := c) (by omega)
      walk_at "u"
      refine u_ixL hL (at_int (j := 0) rfl (bI_at rfl)) ?_
      walk_at "u"
      refine ite_d (fun h2 => ?_) (fun h2 => ?_)
      · walk_at "u"
        refine k _ _ (Same.refl _) ?_
        simp only [Sm.mostM]
        rw [if_pos (by omega)]
      · walk_at "u"
        refine u_ixL hL (at_int (j := 0) rfl (bI_at rfl)) ?_
        walk_at "us"
        all_goals (
          refine k _ _ (Same.refl _) ?_
          simp only [Sm.mostM]
          rw [if_neg (by omega)]
          split <;> omega)
    · walk_at "u"
      refine ⟨by show 2 ≤ sizeLine; decide, fun p hp => ?_⟩
      have s1 := same_new (o := .lst [.int 239, .int 191]) hp
      refine u_eqL (ms := [239, 191]) (same_l s1 hL) (li_of upd_same) ?_
      walk_at "u"
      refine ite_d (fun h2 => ?_) (fun h2 => ?_)
      · walk_at "u"
        refine k _ _ s1 ?_
        obtain ⟨c', d', e, e1, e2⟩ := bI_two h2
        rw [e]
        simp only [Sm.mostM]
        rw [if_pos ⟨e1, e2⟩]
      · walk_at "u"
        refine u_lenL (same_l s1 hL) ?_
        walk_at "u"
        rw [map_int_len, bI_len]
        have e0 : ∀ d, b = [d] → Sm.mostM (c :: b) = 191 := fun d e => by
          subst e
          simp only [Sm.mostM]
          rw [if_neg (fun q => h2 (by simp only [bI, List.map_cons, List.map_nil, q.1, q.2]; rfl))]
        refine ite_d (fun h3 => ?_) (fun h3 => ?_)
        · obtain ⟨d, e, rfl⟩ : ∃ d e, b = [d, e] := by
            match b, h3 with
            | [d, e], _ => exact ⟨d, e, rfl⟩
          walk_at "u"
          refine u_ixL (same_l s1 hL) (at_int (j := 1) rfl (bI_at rfl)) ?_
          walk_at "u"
          rw [bitAnd_m4]
          refine ite_d (fun h4 => ?_) (fun h4 => ?_)
          · walk_at "u"
            refine u_ixL (same_l s1 hL) (at_int (j := 2) rfl (bI_at rfl)) ?_
            walk_at "u"
            refine ite_d (fun h5 => ?_) (fun h5 => ?_)
            · walk_at "u"
              refine k _ _ s1 ?_
              simp only [Sm.mostM]
              rw [if_pos (by omega)]
            · walk_at "u"
              refine k _ _ s1 ?_
              simp only [Sm.mostM]
              rw [if_neg (by omega)]
          · walk_at "u"
            refine k _ _ s1 ?_
            simp only [Sm.mostM]
            rw [if_neg (by omega)]
        · walk_at "u"
          refine k _ _ s1 ?_
          have e : (191 : Int) = Sm.mostM (c :: b) := by
            rcases le3 b hb with rfl | ⟨x, rfl⟩ | ⟨x, y, rfl⟩ | ⟨x, y, z, rfl⟩
            · exact absurd rfl h1
            · exact (e0 x rfl).symm
            · exact absurd rfl h3
            · rfl
          exact e
end
end Sr
namespace Sr
open PySem PySem.Spec PyProof.Rows L2
open Fh (Bytes)
section
variable {P : Program} {w : World} {K : PySem.W.Frag} {mg : Str → Option Value} {base : Heap}
theorem cut_one (c : UInt8) (b : Bytes) : cutV ((bI (c :: b)).map V.int) (some 1) none = (bI b).map V.int := by
  unfold cutV
  have e : HT.sIx ((bI (c :: b)).map V.int).length 0 (some 1) = 1 := by
    have := HT.sIx_nat ((bI (c :: b)).map V.int).length 0 1
    rw [show ((1 : Nat) : Int) = 1 from rfl] at this
    rw [this, map_int_len, bI_len, List.length_cons]
    exact Nat.min_eq_left (by omega)
  rw [e, HT.sIx_none]
  show (((bI b).map V.int)).take _ = _
  rw [List.take_of_length_le]
  rw [map_int_len, map_int_len, bI_len, bI_len, List.length_cons]
  omega
def cstep (a : Int) (o : UInt8) : Int := a * 64 + o.toNat - 128
def codeB (n : Nat) : Int := if n = 2 then 192 else if n = 3 then 224 else 240
theorem codeM_fold (c : UInt8) (b : Bytes) (h : b ≠ []) (hb : b.length ≤ 3) : Sm.codeM (c :: b) = b.foldl cstep (c.toNat - codeB (b.length + 1)) := by
  rcases le3 b hb with rfl | ⟨x, rfl⟩ | ⟨x, y, rfl⟩ | ⟨x, y, z, rfl⟩
  · exact absurd rfl h
  · rfl
  · rfl
  · rfl
theorem ok_code_of (T : Txt K mg) : FnOk P w K mg base CX0 1 T.f_code_of.a T.f_code_of.fd ["got"] (sp_code_of K) := by
  refine T.f_code_of.F.ok sc_code_of (fun vs H Q E h => ?_) (fun cdv A outer s H vs Q E hr h => ⟨_, (pss_cons (ps_if (pt_cmpR op_eq (pe_callB (cr_len K) rfl T.b_len PySem.boot_len (pa_cons (pv 0) pa_nil)) pe_int (nomark _)) (pss_one (ps_ret (pe_ix (ixLK K) (pv 0) pe_int (fun _ _ => rfl)))) pss_nil)
 (pss_cons (ps_set (i := 1) sc_code_of.nd rfl (Or.inl rfl) (pe_op op_sub (pe_ix (ixLK K) (pv 0) pe_int (fun _ _ => rfl)) (pe_ix (ixTK K) (pe_tup (pa_cons pe_int (pa_cons pe_int (pa_cons pe_int pa_nil)))) (pe_op op_sub (pe_callB (cr_len K) rfl T.b_len PySem.boot_len (pa_cons (pv 0) pa_nil)) pe_int) (fun _ _ => rfl))))
 (pss_cons (ps_for PassesOwn.never rfl (piLK K (pe_slice (slLK K) (pv 0) (po_some pe_int) po_none)) (pg_name (i := 2) sc_code_of.nd rfl (Or.inl rfl)) (pss_one (ps_set (i := 1) sc_code_of.nd rfl (Or.inl rfl) (pe_op op_sub (pe_op op_add (pe_op op_mul (pv 1) pe_int) (pv 2)) pe_int))))
 (pss_one (ps_ret (pv 1)))))), ?_⟩)
  · obtain ⟨_, _, _, rfl, _⟩ := h; rfl
  · obtain ⟨a, c, b, rfl, hL, hb, k⟩ := h
    have hc := Sm.byte_lt c
    walk_at "u"
    refine u_lenL hL ?_
    walk_at "u"
    rw [map_int_len, bI_len]
    refine ite_d (fun h1 => ?_) (fun h1 => ?_)
    · obtain rfl : b = [] := one_of (c := c) (by omega)
      walk_at "u"
      refine u_ixL hL (at_int (j := 0) rfl (bI_at rfl)) ?_
      exact k _ _ (Same.refl _) rfl
    · have hne : b ≠ [] := fun q => by subst q; exact h1 rfl
      walk_at "u"
      refine u_ixL hL (at_int (j := 0) rfl (bI_at rfl)) ?_
      walk_at "u"
      refine ⟨by show 3 ≤ sizeLine; decide, fun p hp => ?_⟩
      have s1 := same_new (o := .tup [.int 192, .int 224, .int 240]) hp
      walk_at "u"
      refine u_lenL (same_l s1 hL) ?_
      walk_at "u"
      rw [map_int_len, bI_len]
      have ex : atI ([.int 192, .int 224, .int 240] : List V) (((c :: b).length : Int) - 2) = some (.int (codeB (b.length + 1))) := by
        rcases le3 b hb with rfl | ⟨x, rfl⟩ | ⟨x, y, rfl⟩ | ⟨x, y, z, rfl⟩
        · exact absurd rfl hne
        · rfl
        · rfl
        · rfl
      refine u_ixT (SqT.of upd_same) ex ?_
      walk_at "u"
      walk_at "u"
      refine u_slL (same_l s1 hL) fun q hq => ?_
      rw [cut_one]
      have s2 := same_then (o := .lst ((bI b).map V.int)) s1 hq
      refine f_listI (K := K) (a := q) (ns := bI b) (fun i σ H' => ∃ v, σ = [some (.ref a), some (.int ((b.take i).foldl cstep (c.toNat - codeB (b.length + 1)))), v] ∧ H' = _) (li_of upd_same) ⟨_, rfl, rfl⟩ (fun i σ H' _ ⟨_, _, e⟩ => by rw [e]; exact li_of upd_same) ?_ ?_
      · rintro i z σ H' hz ⟨v, rfl, rfl⟩
        unfold bI at hz
        rw [List.getElem?_map] at hz
        obtain ⟨o, ho, rfl⟩ := Option.map_eq_some_iff.mp hz
        walk_at "u"
        refine u_I (Or.inr ⟨by decide, by decide⟩) ?_
        walk_at "u"
        refine ⟨some (.int o.toNat), ?_, rfl⟩
        show [_, _, _] = [_, _, _]
        have e : b.take (i + 1) = b.take i ++ [o] := by
          rw [List.take_add_one, ho]; rfl
        rw [e, List.foldl_append]
        rfl
      · rintro σ H' ⟨v, rfl, rfl⟩
        rw [bI_len, List.take_length]
        walk_at "u"
        exact k _ _ s2 (codeM_fold c b hne hb).symm
end
end Sr
namespace Sr
open PySem PySem.Spec PyProof.Rows L2
open Fh (Bytes)
/-- the bytes from a place to another one -/
def cutB (b : Bytes) (i e : Nat) : Bytes := (b.take e).drop i
theorem cutB_nil {b : Bytes} {i e : Nat} (h : e ≤ i) : cutB b i e = [] := by
  unfold cutB
  refine List.drop_eq_nil_of_le ?_
  rw [List.length_take]
  omega
theorem cutB_len {b : Bytes} {i e : Nat} (h : e ≤ b.length) : (cutB b i e).length = e - i := by
  unfold cutB
  rw [List.length_drop, List.length_take]
  omega
theorem cutB_get {b : Bytes} {i e j : Nat} (h : i + j < e) : (cutB b i e)[j]? = b[i + j]? := by
  unfold cutB
  rw [List.getElem?_drop, List.getElem?_take, if_pos h]
theorem cutB_cons {b : Bytes} {i e : Nat} (h : i < e) (he : e ≤ b.length) : ∃ c, b[i]? = some c ∧ cutB b i e = c :: cutB b (i + 1) e := by
  have hl : i < (b.take e).length := by rw [List.length_take]; omega
  refine ⟨b[i]'(by omega), List.getElem?_eq_getElem (by omega), ?_⟩
  unfold cutB
  rw [List.drop_eq_getElem_cons hl, List.getElem_take]
theorem cutB_drop {b : Bytes} {i e n : Nat} : (cutB b i e).drop n = cutB b (i + n) e := by
  unfold cutB
  rw [List.drop_drop]
def chRes (i : Nat) (x : Except Nat (Int × Nat)) : Int × Int := match x with
  | .ok v => (v.1, ((i + v.2 : Nat) : Int))
  | .error k => (-1, ((i + k : Nat) : Int))
section
variable {P : Program} {w : World} {K : PySem.W.Frag} {mg : Str → Option Value} {base : Heap}
def sp_character_at (K : PySem.W.Frag) : Sp := fun vs H Q _ => ∃ (a : Addr) (b : Bytes) (i e : Nat), vs = [.ref a, .int i, .int e] ∧ LI K H a (bI b) ∧ i ≤ e ∧ e ≤ b.length ∧ b.length ≤ 1000000 ∧
  ∀ p H' x, Same H H' → x = chRes i (Sm.charM (cutB b i e)) → H' p = some (.tup [.int x.1, .int x.2]) → Q (.ref p) H'
theorem take_one {c : UInt8} {r : Bytes} {i : Nat} {o : UInt8} (h : r[i]? = some o) : c :: r.take (i + 1) = (c :: r.take i) ++ [o] := by
  rw [List.take_add_one, h]; rfl
theorem ok_character_at (T : Txt K mg) : FnOk P w K mg base CX0 2 T.f_character_at.a T.f_character_at.fd ["octets", "at", "end"] (sp_character_at K) := by
  refine T.f_character_at.F.ok sc_character_at (fun vs H Q E h => ?_) (fun cdv A outer s H vs Q E hr h => ⟨_, (pss_cons (ps_set (i := 3) sc_character_at.nd rfl (Or.inl rfl) (pe_ifExp (pt_cmpR op_eq (pv 1) (pv 2) (nomark _)) (pe_un un_neg pe_int) (pe_call (ok_further T) (hr.mono (by decide)) rfl T.f_further.g T.f_further.F.kp T.f_further.b .nil pass0 (pa_cons (pe_ix (ixLK K) (pv 0) (pv 1) (fun _ _ => rfl)) pa_nil))))
 (pss_cons (ps_if (pt_cmpR op_lt (pv 3) pe_int (nomark _)) (pss_one (ps_ret (pe_tup (pa_cons (pe_un un_neg pe_int) (pa_cons (pv 1) pa_nil))))) pss_nil)
 (pss_cons (ps_set (i := 4) sc_character_at.nd rfl (Or.inl rfl) (pe_lst (pa_cons (pe_ix (ixLK K) (pv 0) (pv 1) (fun _ _ => rfl)) pa_nil)))
 (pss_cons (ps_for PassesOwn.never rfl (pi_range2 rfl T.b_range (pa_cons (pe_op op_add (pv 1) pe_int) (pa_cons (pe_op op_add (pe_op op_add (pv 1) pe_int) (pv 3)) pa_nil))) (pg_name (i := 5) sc_character_at.nd rfl (Or.inl rfl)) (pss_cons (ps_if (PW.pt (pw_or (pt_cmpR op_eq (pv 5) (pv 2) (nomark _)) (pw_or1 (pt_not (pt_chain op_le op_le (pe_call (ok_least_behind T) (hr.mono (by decide)) rfl T.f_least_behind.g T.f_least_behind.F.kp T.f_least_behind.b .nil pass0 (pa_cons (pv 4) pa_nil)) (pe_ix (ixLK K) (pv 0) (pv 5) (fun _ _ => rfl)) (pe_call (ok_most_behind T) (hr.mono (by decide)) rfl T.f_most_behind.g T.f_most_behind.F.kp T.f_most_behind.b .nil pass0 (pa_cons (pv 4) pa_nil))))))) (pss_one (ps_ret (pe_tup (pa_cons (pe_un un_neg pe_int) (pa_cons (pv 5) pa_nil))))) pss_nil)
 (pss_one (ps_expr (bmK K PySem.F.plainAttrs_list PySem.F.slot_list_append PySem.F.type_list_append mt_append (pv 4) (pa_cons (pe_ix (ixLK K) (pv 0) (pv 5) (fun _ _ => rfl)) pa_nil))))))
 (pss_one (ps_ret (pe_tup (pa_cons (pe_call (ok_code_of T) (hr.mono (by decide)) rfl T.f_code_of.g T.f_code_of.F.kp T.f_code_of.b .nil pass0 (pa_cons (pv 4) pa_nil)) (pa_cons (pe_op op_add (pe_op op_add (pv 1) pe_int) (pv 3)) pa_nil))))))))), ?_⟩)
  · obtain ⟨_, _, _, _, rfl, _⟩ := h; rfl
  · obtain ⟨a, b, i, e, rfl, hL, hi, he, hbl, k⟩ := h
    walk_at "u"
    refine ite_d (fun h1 => ?_) (fun h1 => ?_)
    · have h1' : i = e := by omega
      walk_at "u"
      refine ite_d (fun h2 => ?_) (fun h2 => absurd (show (-1 : Int) < 0 by decide) h2)
      walk_at "u"
      refine ⟨by show 2 ≤ sizeLine; decide, fun p hp => ?_⟩
      refine k p _ _ (same_new hp) rfl ?_
      rw [cutB_nil (by omega)]
      exact upd_same
    · have hlt : i < e := by omega
      obtain ⟨c, hc, hcut⟩ := cutB_cons hlt he
      have hcb := Sm.byte_lt c
      rw [hcut] at k
      have hr : (cutB b (i + 1) e).length = e - (i + 1) := cutB_len he
      have hg : ∀ j, i + 1 + j < e → (cutB b (i + 1) e)[j]? = b[i + 1 + j]? := fun j hj => cutB_get hj
      generalize cutB b (i + 1) e = r at k hr hg
      walk_at "u"
      refine u_ixL hL (at_int (j := i) rfl (bI_at hc)) ?_
      walk_at "u"
      refine ⟨_, rfl, fun m hm => ?_⟩
      walk_at "u"
      refine ite_d (fun h2 => ?_) (fun h2 => ?_)
      · walk_at "u"
        refine ⟨by show 2 ≤ sizeLine; decide, fun p hp => ?_⟩
        refine k p _ _ (same_new hp) rfl ?_
        simp only [Sm.charM]
        rw [if_pos (by omega)]
        exact upd_same
      · walk_at "u"
        refine u_ixL hL (at_int (j := i) rfl (bI_at hc)) ?_
        walk_at "u"
        refine ⟨by show 1 ≤ sizeLine; decide, fun g hg0 => ?_⟩
        have s1 := same_new (o := .lst [.int c.toNat]) hg0
        walk_at "u"
        have hm3 : 0 ≤ m ∧ m ≤ 3 := by
          rcases Sm.further_cases (c := c.toNat) (by omega) with h | h | h | h <;> omega
        refine f_rng2 (fun j σ H' => ∃ v, σ = [some (.ref a), some (.int i), some (.int e), some (.int m), some (.ref g), v] ∧ Same H H' ∧ j ≤ r.length ∧ H' g = some (.lst ((bI (c :: r.take j)).map V.int)) ∧ Sm.charLoop m.toNat [c] r = Sm.charLoop (m.toNat - j) (c :: r.take j) (r.drop j))
          ⟨by omega, by omega, by omega, by omega⟩ ⟨none, rfl, s1, Nat.zero_le _, upd_same, rfl⟩ ?_ ?_
        · rintro j σ H' hj ⟨v, rfl, s2, hjr, hgl, hloop⟩
          have hj' : j < m.toNat := by omega
          have hlen : (c :: r.take j).length = j + 1 := by rw [List.length_cons, List.length_take]; omega
          walk_at "u"
          refine ite_d (fun h3 => ?_) (fun h3 => ?_)
          · walk_at "u"
            refine ⟨by show 2 ≤ sizeLine; decide, fun p hp => ?_⟩
            have hjr2 : j = r.length := by omega
            have e1 : Sm.charLoop m.toNat [c] r = .error (j + 1) := by
              rw [hloop, hjr2, List.drop_length]
              have : m.toNat - r.length = (m.toNat - r.length - 1) + 1 := by omega
              rw [this]
              show Except.error (c :: r.take r.length).length = _
              rw [← hjr2, hlen]
            refine k p _ (-1, (i : Int) + 1 + j) (same_then s2 hp) ?_ upd_same
            simp only [Sm.charM]
            rw [if_neg (by omega), ← hm, e1]
            exact Prod.ext rfl (by show (i : Int) + 1 + j = ((i + (j + 1) : Nat) : Int); omega)
          · walk_at "u"
            have hjr2 : j < r.length := by omega
            obtain ⟨o, ho⟩ : ∃ o, r[j]? = some o := ⟨r[j], List.getElem?_eq_getElem hjr2⟩
            have ho2 : b[i + 1 + j]? = some o := by rw [← hg j (by omega)]; exact ho
            have hdr : r.drop j = o :: r.drop (j + 1) := by
              rw [List.drop_eq_getElem_cons hjr2]
              rw [List.getElem?_eq_getElem hjr2] at ho
              rw [Option.some.inj ho]
            have hL2 := same_l s2 hL
            have hgl2 : LI K H' g (bI (c :: r.take j)) := li_of hgl
            refine ⟨g, c, r.take j, rfl, hgl2, by rw [List.length_take]; omega, fun H3 x s3 hx => ?_⟩
            walk_at "u"
            refine u_ixL (same_l s3 hL2) (at_int (j := i + 1 + j) (by omega) (bI_at ho2)) ?_
            walk_at "u"
            have hst : Sm.charLoop (m.toNat - j) (c :: r.take j) (r.drop j) = if Sm.leastM (c :: r.take j) ≤ o.toNat ∧ (o.toNat : Int) ≤ Sm.mostM (c :: r.take j) then Sm.charLoop (m.toNat - (j + 1)) (c :: r.take (j + 1)) (r.drop (j + 1)) else .error (j + 1) := by
              rw [hdr]
              have : m.toNat - j = (m.toNat - (j + 1)) + 1 := by omega
              rw [this, take_one ho]
              show (if _ then _ else Except.error (c :: r.take j).length) = _
              rw [hlen]
            have bad : ∀ H4, Same H H4 → ¬ (Sm.leastM (c :: r.take j) ≤ o.toNat ∧ (o.toNat : Int) ≤ Sm.mostM (c :: r.take j)) → ∀ p, H4 p = none → Q (.ref p) (upd H4 p (.tup [.int (-1), .int ((i : Int) + 1 + j)])) := fun H4 s4 hn p hp => by
              refine k p _ (-1, (i : Int) + 1 + j) (same_then s4 hp) ?_ upd_same
              rw [if_neg hn] at hst
              simp only [Sm.charM]
              rw [if_neg (by omega), ← hm, hloop, hst]
              exact Prod.ext rfl (by show (i : Int) + 1 + j = ((i + (j + 1) : Nat) : Int); omega)
            refine ite_d (fun h4 => ?_) (fun h4 => ?_)
            · walk_at "u"
              refine ⟨g, c, r.take j, rfl, same_l s3 hgl2, by rw [List.length_take]; omega, fun H4 y s4 hy => ?_⟩
              walk_at "u"
              refine ite_nd (fun h5 => ?_) (fun h5 => ?_)
              · walk_at "u"
                refine ⟨by show 2 ≤ sizeLine; decide, fun p hp => ?_⟩
                exact bad _ (s2.trans (s3.trans s4)) (fun q => h5 (by rw [hy]; exact q.2)) p hp
              · walk_at "u"
                refine ⟨u_lty (s4 _ _ (s3 _ _ hgl)), ?_⟩
                walk_at "u"
                refine u_ixL (same_l s4 (same_l s3 hL2)) (at_int (j := i + 1 + j) (by omega) (bI_at ho2)) ?_
                walk_at "u"
                refine u_append (s4 _ _ (s3 _ _ hgl)) (by rw [List.length_map, bI_len, hlen]; exact size_less (by omega)) ?_
                rw [if_pos ⟨by rw [← hx]; exact h4, by rw [← hy]; exact h5⟩] at hst
                refine ⟨_, rfl, same_mut (s2.trans (s3.trans s4)) hg0, hjr2, ?_, hloop.trans hst⟩
                rw [upd_same, take_one ho, bI_app, List.map_append]
                rfl
            · walk_at "u"
              refine ⟨by show 2 ≤ sizeLine; decide, fun p hp => ?_⟩
              exact bad _ (s2.trans s3) (fun q => h4 (by rw [hx]; exact q.1)) p hp
        · rintro σ H' ⟨v, rfl, s2, hjr, hgl, hloop⟩
          have en : ((i : Int) + 1 + m - (i + 1)).toNat = m.toNat := by congr 1; omega
          rw [en] at hjr hgl hloop
          walk_at "u"
          refine ⟨g, c, r.take m.toNat, rfl, li_of hgl, by rw [List.length_take]; omega, fun H3 x s3 hx => ?_⟩
          walk_at "u"
          refine ⟨by show 2 ≤ sizeLine; decide, fun p hp => ?_⟩
          refine k p _ (x, (i : Int) + 1 + m) (same_then (s2.trans s3) hp) ?_ upd_same
          rw [Nat.sub_self] at hloop
          simp only [Sm.charM]
          rw [if_neg (by omega), ← hm, hloop]
          exact Prod.ext hx (by show (i : Int) + 1 + m = ((i + (m.toNat + 1) : Nat) : Int); omega)
end
end Sr
namespace Sr
open PySem PySem.Spec PyProof.Rows L2
open Fh (Bytes)
/-! ### the object that is read from, the error -/
/-- all but what stands at x -/
def Keep (x : Addr) (H H' : Hp) : Prop := ∀ p o, H p = some o → p ≠ x → H' p = some o
theorem Keep.refl {x : Addr} (H : Hp) : Keep x H H := fun _ _ h _ => h
theorem Keep.trans {x : Addr} {H H1 H2 : Hp} (a : Keep x H H1) (b : Keep x H1 H2) : Keep x H H2 := fun p o h n => b p o (a p o h n) n
theorem Keep.same {x : Addr} {H H' : Hp} (s : Same H H') : Keep x H H' := fun p o h _ => s p o h
theorem Keep.upd {x : Addr} {H : Hp} {o : HO} : Keep x H (upd H x o) := fun p u h n => by rw [upd_ne n]; exact h
theorem Keep.new {x p : Addr} {H : Hp} {o : HO} (h : H p = none) : Keep x H (L2.upd H p o) := Keep.same (same_new h)
theorem Keep.mut {x p : Addr} {H H' : Hp} {o : HO} (e : Keep x H H') (h : H p = none) : Keep x H (L2.upd H' p o) := fun q u hq n => by
  rw [upd_ne (ne_of_none hq h)]
  exact e q u hq n
theorem Keep.l {K : PySem.W.Frag} {x a : Addr} {H H' : Hp} {xs : List V} {C dx : Addr} {fs : List (Str × V)} (e : Keep x H H') (hx : H x = some (.ins C dx fs)) (h : SqL K H a xs) : SqL K H' a xs := by
  rcases h with h | h
  · refine Or.inl ?_
    rcases h with h | ⟨o, h⟩
    · exact Or.inl (e a _ h (fun z => by rw [z, hx] at h; cases h))
    · exact Or.inr ⟨o, e a _ h (fun z => by rw [z, hx] at h; cases h)⟩
  · exact Or.inr h
theorem Keep.t {K : PySem.W.Frag} {x a : Addr} {H H' : Hp} {xs : List V} {C dx : Addr} {fs : List (Str × V)} (e : Keep x H H') (hx : H x = some (.ins C dx fs)) (h : SqT K H a xs) : SqT K H' a xs := by
  rcases h with h | h
  · refine Or.inl ?_
    rcases h with h | ⟨o, h⟩
    · exact Or.inl (e a _ h (fun z => by rw [z, hx] at h; cases h))
    · exact Or.inr ⟨o, e a _ h (fun z => by rw [z, hx] at h; cases h)⟩
  · exact Or.inr h
theorem Keep.kt {x : Addr} {H H' : Hp} {C dx : Addr} {fs : List (Str × V)} (e : Keep x H H') (hx : H x = some (.ins C dx fs)) : Kt H H' :=
  ⟨fun p xs h => e p _ h (fun z => by rw [z, hx] at h; cases h), fun p o u h => e p _ h (fun z => by rw [z, hx] at h; cases h)⟩
mutual
theorem Keep.d {K : PySem.W.Frag} {x : Addr} {H H' : Hp} {C dx : Addr} {fs : List (Str × V)} (e : Keep x H H') (hx : H x = some (.ins C dx fs)) : ∀ {v : V} {d : PyData}, Dp K H v d → Dp K H' v d
  | _, _, .non => .non
  | _, _, .bl b => .bl b
  | _, _, .int i => .int i
  | _, _, .str z => .str z
  | _, _, .lst h hs => .lst (e.l hx h) (e.ds hx hs)
  | _, _, .tup h hs => .tup (e.t hx h) (e.ds hx hs)
theorem Keep.ds {K : PySem.W.Frag} {x : Addr} {H H' : Hp} {C dx : Addr} {fs : List (Str × V)} (e : Keep x H H') (hx : H x = some (.ins C dx fs)) : ∀ {vs : List V} {ds : List PyData}, DpAll K H vs ds → DpAll K H' vs ds
  | _, _, .nil => .nil
  | _, _, .cons h hs => .cons (e.d hx h) (e.ds hx hs)
end
def rF (oa : Addr) (i : Nat) (dc : Addr) : List (Str × V) := [("octets", .ref oa), ("at", .int (i : Int)), ("classes", .ref dc)]
theorem lk_here {k : Str} {v : V} {r : List (Str × V)} : List.lookup k ((k, v) :: r) = some v := by
  have e : (k == k) = true := beq_self_eq_true k
  simp only [List.lookup, e]
theorem lk_past {k g : Str} {v : V} {r : List (Str × V)} (h : (k == g) = false) : List.lookup k ((g, v) :: r) = List.lookup k r := by
  simp only [List.lookup, h]
theorem put_here {f : Str} {v x : V} {r : List (Str × V)} : putF f v ((f, x) :: r) = (f, v) :: r := if_pos rfl
theorem put_past {f g : Str} {v x : V} {r : List (Str × V)} (h : ¬ g = f) : putF f v ((g, x) :: r) = (g, x) :: putF f v r := if_neg h
theorem rF_octets (oa : Addr) (i : Nat) (dc : Addr) : (rF oa i dc).lookup ("octets" : Str) = some (.ref oa) := lk_here
theorem rF_at (oa : Addr) (i : Nat) (dc : Addr) : (rF oa i dc).lookup ("at" : Str) = some (.int (i : Int)) := (lk_past (by decide +kernel)).trans lk_here
theorem rF_classes (oa : Addr) (i : Nat) (dc : Addr) : (rF oa i dc).lookup ("classes" : Str) = some (.ref dc) := (lk_past (by decide +kernel)).trans ((lk_past (by decide +kernel)).trans lk_here)
theorem rF_no {oa : Addr} {i : Nat} {dc : Addr} {m : Str} (h1 : (m == ("octets" : Str)) = false) (h2 : (m == ("at" : Str)) = false) (h3 : (m == ("classes" : Str)) = false) : (rF oa i dc).lookup m = none := (lk_past h1).trans ((lk_past h2).trans ((lk_past h3).trans rfl))
theorem rF_put (oa : Addr) (i j : Nat) (dc : Addr) : putF ("at" : Str) (.int (j : Int)) (rF oa i dc) = rF oa j dc := (put_past (by decide +kernel)).trans (congrArg _ put_here)
section
variable {P : Program} {w : World} {K : PySem.W.Frag} {mg : Str → Option Value} {base : Heap}
/-- x reads from the list at oa, at i, its classes the dict at dc -/
abbrev RAt (T : Txt K mg) (H : Hp) (x dx oa dc : Addr) (i : Nat) : Prop := H x = some (.ins T.C dx (rF oa i dc))
section
variable {H : Hp} {x dx oa dc : Addr} {i : Nat} {Q : VK} {σ : L2.St}
theorem r_at (T : Txt K mg) (h : RAt T H x dx oa dc i) (q : Q (.int i) H) : RFld K "at" (.ref x) H Q := u_fldv h T.cl_Reading T.na_at (rF_at oa i dc) q
theorem r_octets (T : Txt K mg) (h : RAt T H x dx oa dc i) (q : Q (.ref oa) H) : RFld K "octets" (.ref x) H Q := u_fldv h T.cl_Reading T.na_octets (rF_octets oa i dc) q
theorem r_classes (T : Txt K mg) (h : RAt T H x dx oa dc i) (q : Q (.ref dc) H) : RFld K "classes" (.ref x) H Q := u_fldv h T.cl_Reading T.na_classes (rF_classes oa i dc) q
theorem r_set (T : Txt K mg) {j : Nat} {z : Int} {N : Hp → Prop} (h : RAt T H x dx oa dc i) (e : z = (j : Int)) (q : N (upd H x (.ins T.C dx (rF oa j dc)))) : RSet K "at" (.int z) (.ref x) H N := by
  subst e
  refine u_setv h T.cl_Reading T.na_at (by show 3 < 1000; decide) ?_
  rw [rF_put]
  exact q
theorem r_meth (T : Txt K mg) {m : Str} {sp : Sp} {E : XK} {t : TA} (h : RAt T H x dx oa dc i) (q : t σ H fun vs H2 => sp (.ref x :: (vs ++ [])) H2 Q E) (h1 : (m == ("octets" : Str)) = false := by decide +kernel) (h2 : (m == ("at" : Str)) = false := by decide +kernel) (h3 : (m == ("classes" : Str)) = false := by decide +kernel) : RMeth T.C m sp [] E t σ Q (.ref x) H := u_methv h (rF_no h1 h2 h3) q
end
/-- an error that tells the place n: all else but x stands -/
def Fl (T : Txt K mg) (E : XK) (x : Addr) (H : Hp) (n : Nat) : Prop := ∀ d H', Keep x H H' → H' d = some (.xd [(("place" : Str), .int (n : Int))]) → E (.ref T.CF) (some d) H'
theorem Fl.on {T : Txt K mg} {E : XK} {x : Addr} {H H' : Hp} {n : Nat} (f : Fl T E x H n) (k : Keep x H H') : Fl T E x H' n := fun d H2 k2 h => f d H2 (k.trans k2) h
def sp_Fault___init__ (T : Txt K mg) : Sp := fun vs H Q _ => ∃ (a : Addr) (n : Int), vs = [.ref a, .int n] ∧ H a = some (exo a T.CF none) ∧ ∀ dx, H dx = none → dx ≠ a → Q .non (upd (upd H dx (exd dx [(("place" : Str), .int n)])) a (exo a T.CF (some dx)))
theorem ok_Fault___init__ (T : Txt K mg) : FnOk P w K mg base CX0 1 T.aI T.fI ["self", "place"] (sp_Fault___init__ T) := by
  refine T.FI.ok sc_Fault___init__ (fun vs H Q E h => ?_) (fun cdv A outer s H vs Q E hr h => ⟨_, (pss_one (ostK K (pv 0) (pv 1))), ?_⟩)
  · obtain ⟨_, _, rfl, _⟩ := h; rfl
  · obtain ⟨a, n, rfl, ha, k⟩ := h
    refine ⟨_, rfl, _, rfl, a, T.CF, rfl, T.ox, T.xp, Or.inl ⟨ha, fun dx h1 h2 => k dx h1 h2⟩⟩
theorem r_raise (T : Txt K mg) {W : XK} {H : Hp} {n : Nat} {z : Int} {x : Addr} (e : z = (n : Int)) (f : Fl T W x H n) : RMk T.CF (sp_Fault___init__ T) [] W [.int z] H := by
  subst e
  refine ⟨by show 1 ≤ 1000; decide, fun a ha => ⟨a, n, rfl, upd_same, fun dx h1 h2 => ⟨rfl, dx, [(("place" : Str), .int (n : Int))], upd_same, ?_, ?_, ?_⟩⟩⟩
  · rw [upd_ne h2]; exact upd_same
  · rw [upd_ne h2] at h1; exact h1
  · have hdx : H dx = none := by rw [upd_ne h2] at h1; exact h1
    refine f dx _ (fun p o hp _ => ?_) upd_same
    have n1 : p ≠ dx := ne_of_none hp hdx
    have n2 : p ≠ a := ne_of_none hp ha
    rw [upd_ne n1, del_ne n2, upd_ne n2, upd_ne n1, upd_ne n2]
    exact hp
end
end Sr
namespace Sr
open PySem PySem.Spec PyProof.Rows L2
open Fh (Bytes)
theorem bI_none {b : Bytes} {i : Nat} (h : b.length ≤ i) : (bI b)[i]? = none := by rw [List.getElem?_eq_none_iff, bI_len]; exact h
theorem hd_some {b : Bytes} {i : Nat} (h : i < b.length) : ∃ c, b[i]? = some c ∧ Sm.hd b i = c.toNat ∧ b.drop i = c :: b.drop (i + 1) := by
  refine ⟨b[i], List.getElem?_eq_getElem h, ?_, List.drop_eq_getElem_cons h⟩
  exact Sm.hd_cons (List.drop_eq_getElem_cons h)
theorem hd_none {b : Bytes} {i : Nat} (h : b.length ≤ i) : Sm.hd b i = -1 := Sm.hd_nil (List.drop_eq_nil_of_le h)
def encS (s : Nat × Nat) : PyData := .tuple [.int s.1, .int s.2]
theorem dp_pair {K : PySem.W.Frag} {H : Hp} {v : V} {a b : Int} (h : Dp K H v (.tuple [.int a, .int b])) : ∃ p, v = .ref p ∧ SqT K H p [.int a, .int b] := by
  cases h with
  | tup hs hd =>
    refine ⟨_, rfl, ?_⟩
    cases hd with
    | cons h1 h2 =>
      cases h1
      cases h2 with
      | cons h3 h4 =>
        cases h3
        cases h4
        exact hs
theorem dp_mk2 {K : PySem.W.Frag} {H : Hp} {p : Addr} {a b : Int} (h : SqT K H p [.int a, .int b]) : Dp K H (.ref p) (.tuple [.int a, .int b]) := .tup h (.cons (.int a) (.cons (.int b) .nil))
section
variable {P : Program} {w : World} {K : PySem.W.Frag} {mg : Str → Option Value} {base : Heap}
def sp_Reading___init__ (T : Txt K mg) : Sp := fun vs H Q _ => ∃ (x dx oa : Addr), vs = [.ref x, .ref oa] ∧ H x = some (.ins T.C dx []) ∧
  ∀ dc H', Keep x H H' → H dc = none → dc ≠ x → RAt T H' x dx oa dc 0 → H' dc = some (.dK []) → Q .non H'
theorem ok_Reading___init__ (T : Txt K mg) : FnOk P w K mg base CX0 1 T.m_Reading___init__.a T.m_Reading___init__.fd ["self", "octets"] (sp_Reading___init__ T) := by
  refine T.m_Reading___init__.F.ok sc_Reading___init__ (fun vs H Q E h => ?_) (fun cdv A outer s H vs Q E hr h => ⟨_, (pss_cons (sfldK K (pv 0) (pv 1) rfl)
 (pss_cons (sfldK K (pv 0) pe_int rfl)
 (pss_one (sfldK K (pv 0) pe_dnewK rfl)))), ?_⟩)
  · obtain ⟨_, _, _, rfl, _⟩ := h; rfl
  · obtain ⟨x, dx, oa, rfl, hx, k⟩ := h
    walk_at "u"
    refine u_setv hx T.cl_Reading T.na_octets (by show 0 < 1000; decide) ?_
    walk_at "u"
    refine u_setv upd_same T.cl_Reading T.na_at (by show 1 < 1000; decide) ?_
    walk_at "u"
    intro p hp
    rw [upd_upd] at hp
    have hpx : p ≠ x := fun z => by rw [z, upd_same] at hp; cases hp
    have hp0 : H p = none := by rw [upd_ne hpx] at hp; exact hp
    walk_at "u"
    refine u_setv (dx := dx) (by rw [upd_ne hpx.symm]; exact upd_same) T.cl_Reading T.na_classes (by show 2 < 1000; decide) ?_
    refine k p _ ?_ hp0 hpx ?_ ?_
    · intro q o hq hn
      rw [upd_ne hn, upd_ne (ne_of_none hq hp0), upd_ne hn, upd_ne hn]
      exact hq
    · have e : putF "classes" (.ref p) (putF "at" (.int 0) (putF "octets" (.ref oa) [])) = rF oa 0 p := by
        show putF "classes" (.ref p) (putF "at" (.int 0) [("octets", .ref oa)]) = _
        rw [put_past (by decide +kernel)]
        show putF "classes" (.ref p) [("octets", .ref oa), ("at", .int 0)] = _
        rw [put_past (by decide +kernel), put_past (by decide +kernel)]
        rfl
      rw [e]
      exact upd_same
    · rw [upd_ne hpx]; exact upd_same
def sp_Reading_here (T : Txt K mg) : Sp := fun vs H Q _ => ∃ (x dx oa dc : Addr) (b : Bytes) (i : Nat), vs = [.ref x] ∧ RAt T H x dx oa dc i ∧ LI K H oa (bI b) ∧ ∀ r, r = Sm.hd b i → Q (.int r) H
theorem ok_Reading_here (T : Txt K mg) : FnOk P w K mg base CX0 1 T.m_Reading_here.a T.m_Reading_here.fd ["self"] (sp_Reading_here T) := by
  refine T.m_Reading_here.F.ok sc_Reading_here (fun vs H Q E h => ?_) (fun cdv A outer s H vs Q E hr h => ⟨_, (pss_one (ps_ret (pe_ifExp (pt_cmpR op_lt (fldK K (pv 0) rfl) (pe_callB (cr_len K) rfl T.b_len PySem.boot_len (pa_cons (fldK K (pv 0) rfl) pa_nil)) (nomark _)) (pe_ix (ixLK K) (fldK K (pv 0) rfl) (fldK K (pv 0) rfl) (fun _ _ => rfl)) (pe_un un_neg pe_int)))), ?_⟩)
  · obtain ⟨_, _, _, _, _, _, rfl, _⟩ := h; rfl
  · obtain ⟨x, dx, oa, dc, b, i, rfl, hx, hL, k⟩ := h
    walk_at "u"
    refine r_at T hx ?_
    walk_at "u"
    refine r_octets T hx ?_
    walk_at "u"
    refine u_lenL hL ?_
    walk_at "u"
    rw [map_int_len, bI_len]
    refine ite_d (fun h1 => ?_) (fun h1 => ?_)
    · obtain ⟨c, hc, hh, _⟩ := hd_some (b := b) (i := i) (by omega)
      walk_at "u"
      refine r_octets T hx ?_
      walk_at "u"
      refine r_at T hx ?_
      refine u_ixL hL (at_int rfl (bI_at hc)) ?_
      exact k _ hh.symm
    · walk_at "u"
      exact k _ (hd_none (by omega)).symm
def sp_Reading_take (T : Txt K mg) : Sp := fun vs H Q E => ∃ (x dx oa dc : Addr) (b : Bytes) (i : Nat) (c : Int), vs = [.ref x, .int c] ∧ RAt T H x dx oa dc i ∧ LI K H oa (bI b) ∧
  (Sm.hd b i = c → ∀ H', Keep x H H' → RAt T H' x dx oa dc (i + 1) → Q .non H') ∧ (Sm.hd b i ≠ c → Fl T E x H i)
theorem ok_Reading_take (T : Txt K mg) : FnOk P w K mg base (L2.CX P w) 3 T.m_Reading_take.a T.m_Reading_take.fd ["self", "octet"] (sp_Reading_take T) := by
  refine T.m_Reading_take.F.okX sc_Reading_take (fun vs H Q E h => ?_) (fun cdv A outer s H vs Q E hr h => ⟨_, (pss_cons (ps_if (pt_cmpR op_ne (pe_meth0 (pv 0) T.cl_Reading T.m_Reading_here.m (ok_Reading_here T) (hr.mono (by decide)) T.m_Reading_here.b .nil pass0) (pv 1) (nomark _)) (pss_one (ps_rz rfl (takes_of rfl rfl rfl rfl) (pmk_oex T.ox T.ix T.tx (ok_Fault___init__ T) (hr.mono (by decide)) T.bI .nil pass0 rfl T.g_Fault (pa_cons (fldK K (pv 0) rfl) pa_nil)))) pss_nil)
 (pss_one (sfldK K (pv 0) (pe_op op_add (fldK K (pv 0) rfl) pe_int) rfl))), ?_⟩)
  · obtain ⟨_, _, _, _, _, _, _, rfl, _⟩ := h; rfl
  · obtain ⟨x, dx, oa, dc, b, i, c, rfl, hx, hL, k1, k2⟩ := h
    walk_at "u"
    refine r_meth T hx ?_
    walk_at "u"
    refine ⟨x, dx, oa, dc, b, i, rfl, hx, hL, fun r hr => ?_⟩
    walk_at "u"
    subst hr
    refine ite_d (fun h1 => ?_) (fun h1 => ?_)
    · walk_at "u"
      refine r_at T hx ?_
      walk_at "u"
      exact r_raise T rfl (k2 h1)
    · walk_at "u"
      refine r_at T hx ?_
      walk_at "u"
      refine r_set T (j := i + 1) hx (by omega) ?_
      exact k1 (by omega) _ Keep.upd upd_same
def sp_can_begin (K : PySem.W.Frag) : Sp := fun vs H Q _ => ∃ (n lo hi : Nat), vs = [.int n, .int lo, .int hi] ∧ hi < 100000000 ∧ ∀ r, r = Sm.canBeginM n lo hi → Q (.bl r) H
theorem ok_can_begin (T : Txt K mg) : FnOk P w K mg base CX0 1 T.f_can_begin.a T.f_can_begin.fd ["number", "low", "high"] (sp_can_begin K) := by
  refine T.f_can_begin.F.ok sc_can_begin (fun vs H Q E h => ?_) (fun cdv A outer s H vs Q E hr h => ⟨_, (pss_cons (ps_if (pt_cmpR op_eq (pv 0) pe_int (nomark _)) (pss_one (ps_ret (pe_cmpR op_eq (pv 1) pe_int (nomark _)))) pss_nil)
 (pss_cons (ps_par (i := 3) (j := 4) (by rfl) sc_can_begin.nd rfl rfl (by decide) rfl rfl (pa_cons (pv 0) (pa_cons (pv 0) pa_nil)) (by rfl))
 (pss_cons (ps_while PassesOwn.never (pt_cmpR op_le (pv 3) (pv 2) (nomark _)) (pss_cons (ps_if (pt_cmpR op_ge (pv 4) (pv 1) (nomark _)) (pss_one (ps_ret pe_bl)) pss_nil)
 (pss_one (ps_par (i := 3) (j := 4) (by rfl) sc_can_begin.nd rfl rfl (by decide) rfl rfl (pa_cons (pe_op op_mul (pv 3) pe_int) (pa_cons (pe_op op_add (pe_op op_mul (pv 4) pe_int) pe_int) pa_nil)) (by rfl)))))
 (pss_one (ps_ret pe_bl))))), ?_⟩)
  · obtain ⟨_, _, _, rfl, _⟩ := h; rfl
  · obtain ⟨n, lo, hi, rfl, hh, k⟩ := h
    walk_at "u"
    unfold Sm.canBeginM at k
    refine ite_d (fun h1 => ?_) (fun h1 => ?_)
    · walk_at "u"
      refine k _ ?_
      rw [if_pos (by omega)]
      congr 1
      simp only [eq_iff_iff]
      omega
    · rw [if_neg (by omega)] at k
      generalize hX : Sm.cbL lo hi 9 n n = X at k
      walk_at "u"
      refine f_while (fun m σ H' => ∃ a z : Nat, σ = [some (.int n), some (.int lo), some (.int hi), some (.int a), some (.int z)] ∧ H' = H ∧ m ≤ 9 ∧ 10 ^ (9 - m) ≤ a ∧ X = Sm.cbL lo hi m a z) (m := 9)
        ⟨n, n, rfl, rfl, Nat.le_refl _, by omega, hX.symm⟩ ?_
      rintro m σ H' ⟨a, z, rfl, rfl, hm, ha, hcb⟩
      walk_at "u"
      refine ite_d (fun h2 => ?_) (fun h2 => ?_)
      · refine u_body ?_
        have hm0 : m ≠ 0 := fun q => by subst q; have : 10 ^ 9 ≤ a := ha; omega
        obtain ⟨m, rfl⟩ : ∃ j, m = j + 1 := ⟨m - 1, by omega⟩
        rw [Sm.cbL, if_pos (by omega)] at hcb
        walk_at "u"
        refine ite_d (fun h3 => ?_) (fun h3 => ?_)
        · walk_at "u"
          refine k _ ?_
          rw [hcb, if_pos (by omega)]
        · rw [if_neg (by omega)] at hcb
          walk_at "u"
          refine u_I (Or.inr ⟨by decide, by decide⟩) ?_
          walk_at "u"
          refine u_I (Or.inr ⟨by decide, by decide⟩) ?_
          walk_at "u"
          refine ⟨m, by omega, a * 10, z * 10 + 9, rfl, rfl, by omega, ?_, hcb⟩
          have e : 9 - m = (9 - (m + 1)) + 1 := by omega
          rw [e, Nat.pow_succ]
          omega
      · walk_at "u"
        refine k _ ?_
        rw [hcb]
        cases m with
        | zero => rfl
        | succ m => rw [Sm.cbL, if_neg (by omega)]
def sp_is_begun (K : PySem.W.Frag) : Sp := fun vs H Q _ => ∃ (n : Nat) (a : Addr) (us : List V) (sp : List (Nat × Nat)), vs = [.int n, .ref a] ∧ SqL K H a us ∧ DpAll K H us (sp.map encS) ∧ (∀ s ∈ sp, s.2 < 100000000) ∧ ∀ r, r = Sm.isBegunM n sp → Q (.bl r) H
theorem ok_is_begun (T : Txt K mg) : FnOk P w K mg base CX0 2 T.f_is_begun.a T.f_is_begun.fd ["number", "spans"] (sp_is_begun K) := by
  refine T.f_is_begun.F.ok sc_is_begun (fun vs H Q E h => ?_) (fun cdv A outer s H vs Q E hr h => ⟨_, (pss_cons (ps_for PassesOwn.never rfl (piLK K (pv 1)) (gtK K (n := 2) rfl (pgs_cons (pg_name (i := 2) sc_is_begun.nd rfl (Or.inl rfl)) (pgs_cons (pg_name (i := 3) sc_is_begun.nd rfl (Or.inl rfl)) pgs_nil))) (pss_one (ps_if (PW.pt (pw_and (pt_cmpR op_le (pv 2) (pv 3) (nomark _)) (pw_and1 (pt_val (pe_call (ok_can_begin T) (hr.mono (by decide)) rfl T.f_can_begin.g T.f_can_begin.F.kp T.f_can_begin.b .nil pass0 (pa_cons (pv 0) (pa_cons (pv 2) (pa_cons (pv 3) pa_nil)))))))) (pss_one (ps_ret pe_bl)) pss_nil)))
 (pss_one (ps_ret pe_bl))), ?_⟩)
  · obtain ⟨_, _, _, _, rfl, _⟩ := h; rfl
  · obtain ⟨n, a, us, sp, rfl, hL, hD, hs, k⟩ := h
    have hlen : us.length = sp.length := by rw [dps_len hD, List.length_map]
    walk_at "u"
    refine f_list (K := K) (a := a) (xs := us) (fun i σ H' => ∃ v1 v2, σ = [some (.int n), some (.ref a), v1, v2] ∧ H' = H ∧ Sm.isBegunM n sp = Sm.isBegunM n (sp.drop i)) hL ⟨none, none, rfl, rfl, rfl⟩ (fun i σ H' _ ⟨_, _, _, e, _⟩ => by rw [e]; exact hL) ?_ ?_
    · rintro i x σ H' hx ⟨v1, v2, rfl, rfl, hb⟩
      have hi : i < sp.length := by rw [← hlen]; exact (List.getElem?_eq_some_iff.mp hx).1
      obtain ⟨v, hv, hd⟩ := dps_get hD (i := i) (d := encS sp[i]) (by rw [List.getElem?_map, List.getElem?_eq_getElem hi]; rfl)
      rw [hx] at hv
      cases hv
      obtain ⟨p, rfl, hp⟩ := dp_pair hd
      have hsp := hs sp[i] (List.getElem_mem hi)
      rw [List.drop_eq_getElem_cons hi] at hb
      generalize sp[i] = s at hp hb hsp
      have hb2 : Sm.isBegunM n sp = ((decide (s.1 ≤ s.2) && Sm.canBeginM n s.1 s.2) || Sm.isBegunM n (sp.drop (i + 1))) := hb
      refine u_gt hp rfl ?_
      walk_at "u"
      refine ite_d (fun h1 => ?_) (fun h1 => ?_)
      · walk_at "u"
        refine ⟨n, s.1, s.2, rfl, hsp, fun r hr => ?_⟩
        walk_at "u"
        refine ite_b (fun h2 => ?_) (fun h2 => ?_)
        · walk_at "u"
          refine k _ ?_
          rw [hb2, decide_eq_true (by omega), ← hr, h2]
          rfl
        · walk_at "u"
          refine ⟨_, _, rfl, rfl, ?_⟩
          rw [hb2, ← hr, h2, Bool.and_false, Bool.false_or]
      · walk_at "u"
        refine ⟨_, _, rfl, rfl, ?_⟩
        rw [hb2, decide_eq_false (by omega), Bool.false_and, Bool.false_or]
    · rintro σ H' ⟨v1, v2, rfl, rfl, hb⟩
      walk_at "u"
      refine k _ ?_
      rw [hb, hlen, List.drop_length]
      rfl
end
end Sr
namespace Sr
open PySem PySem.Spec PyProof.Rows L2
open Fh (Bytes)
def foundI : Option Nat → Int
  | none => -1
  | some v => v
theorem found_max (f : Option Nat) : (if (0 : Int) > foundI f then 0 else foundI f) = ((f.getD 0 : Nat) : Int) := by
  cases f with
  | none => rfl
  | some v =>
    show (if (0 : Int) > (v : Int) then 0 else (v : Int)) = (v : Int)
    rw [if_neg (by omega)]
theorem found_ne (f : Option Nat) : foundI f ≠ 0 ↔ f ≠ some 0 := by
  cases f with
  | none => exact ⟨fun _ => (fun h => nomatch h), fun _ => (show (-1 : Int) ≠ 0 by decide)⟩
  | some v =>
    show (v : Int) ≠ 0 ↔ some v ≠ some 0
    simp only [ne_eq, Option.some.injEq]
    omega
section
variable {P : Program} {w : World} {K : PySem.W.Frag} {mg : Str → Option Value} {base : Heap}
def sp_Reading_number (T : Txt K mg) : Sp := fun vs H Q E => ∃ (x dx oa dc : Addr) (b : Bytes) (i : Nat) (sa : Addr) (us : List V) (sp : List (Nat × Nat)), vs = [.ref x, .ref sa] ∧ RAt T H x dx oa dc i ∧ LI K H oa (bI b) ∧
  SqL K H sa us ∧ DpAll K H us (sp.map encS) ∧ (∀ s ∈ sp, s.2 < 100000000) ∧ (∀ k, Sm.numM sp (b.drop i) = .error k → Fl T E x H (i + k)) ∧
  ∀ v k, Sm.numM sp (b.drop i) = .ok (v, k) → ∀ H', Keep x H H' → RAt T H' x dx oa dc (i + k) → Q (.int (v : Nat)) H'
theorem ok_Reading_number (T : Txt K mg) : FnOk P w K mg base (L2.CX P w) 3 T.m_Reading_number.a T.m_Reading_number.fd ["self", "spans"] (sp_Reading_number T) := by
  refine T.m_Reading_number.F.okX sc_Reading_number (fun vs H Q E h => ?_) (fun cdv A outer s H vs Q E hr h => ⟨_, (pss_cons (ps_set (i := 2) sc_Reading_number.nd rfl (Or.inl rfl) (pe_un un_neg pe_int))
 (pss_cons (ps_while (passes_of rfl) (PW.pt (pw_and (pt_chain op_le op_le pe_int (pe_meth0 (pv 0) T.cl_Reading T.m_Reading_here.m (ok_Reading_here T) (hr.mono (by decide)) T.m_Reading_here.b .nil pass0) pe_int) (pw_and1 (pt_cmpR op_ne (pv 2) pe_int (nomark _))))) (pss_cons (ps_set (i := 3) sc_Reading_number.nd rfl (Or.inl rfl) (pe_op op_sub (pe_op op_add (pe_op op_mul (pe_callB (cr_max2 rfl) rfl T.b_max (by decide +kernel) (pa_cons (pv 2) (pa_cons pe_int pa_nil))) pe_int) (pe_meth0 (pv 0) T.cl_Reading T.m_Reading_here.m (ok_Reading_here T) (hr.mono (by decide)) T.m_Reading_here.b .nil pass0)) pe_int))
 (pss_cons (ps_if (pt_not (pt_val (pe_call (ok_is_begun T) (hr.mono (by decide)) rfl T.f_is_begun.g T.f_is_begun.F.kp T.f_is_begun.b .nil pass0 (pa_cons (pv 3) (pa_cons (pv 1) pa_nil))))) (pss_one (ps_rz rfl (takes_of rfl rfl rfl rfl) (pmk_oex T.ox T.ix T.tx (ok_Fault___init__ T) (hr.mono (by decide)) T.bI .nil pass0 rfl T.g_Fault (pa_cons (fldK K (pv 0) rfl) pa_nil)))) pss_nil)
 (pss_cons (ps_set (i := 2) sc_Reading_number.nd rfl (Or.inl rfl) (pv 3))
 (pss_one (sfldK K (pv 0) (pe_op op_add (fldK K (pv 0) rfl) pe_int) rfl))))))
 (pss_cons (ps_for (passes_of rfl) rfl (piLK K (pv 1)) (gtK K (n := 2) rfl (pgs_cons (pg_name (i := 4) sc_Reading_number.nd rfl (Or.inl rfl)) (pgs_cons (pg_name (i := 5) sc_Reading_number.nd rfl (Or.inl rfl)) pgs_nil))) (pss_one (ps_if (pt_chain op_le op_le (pv 4) (pv 2) (pv 5)) (pss_one (ps_ret (pv 2))) pss_nil)))
 (pss_one (ps_rz rfl (takes_of rfl rfl rfl rfl) (pmk_oex T.ox T.ix T.tx (ok_Fault___init__ T) (hr.mono (by decide)) T.bI .nil pass0 rfl T.g_Fault (pa_cons (fldK K (pv 0) rfl) pa_nil))))))), ?_⟩)
  · obtain ⟨_, _, _, _, _, _, _, _, _, rfl, _⟩ := h; rfl
  · obtain ⟨x, dx, oa, dc, b, i, sa, us, sp, rfl, hx, hL, hS, hD, hs, kE, kO⟩ := h
    have hlen : us.length = sp.length := by rw [dps_len hD, List.length_map]
    unfold Sm.numM at kE kO
    generalize hr0 : Sm.numL sp none 0 (b.drop i) = R at kE kO
    walk_at "u"
    refine f_while (fun m σ H' => ∃ (f : Option Nat) (k : Nat) (v3 : Option V), σ = [some (.ref x), some (.ref sa), some (.int (foundI f)), v3, none, none] ∧ Keep x H H' ∧ RAt T H' x dx oa dc (i + k) ∧ m = b.length - (i + k) ∧ R = Sm.numL sp f k (b.drop (i + k)))
      ⟨none, 0, none, rfl, Keep.refl _, hx, rfl, hr0.symm⟩ ?_
    rintro m σ H' ⟨f, k, v3, rfl, hK, hx2, rfl, hR⟩
    have hL2 := hK.l hx hL
    have hS2 := hK.l hx hS
    have hD2 := hK.ds hx hD
    -- behind the loop
    have fin : R = .ok (f, k) → (tSeq (tFor (iList K (tVar 1)) (gTup K 2 (gCons (gName 4) (gCons (gName 5) gNil)))
          (tIfS (tTest (tChain (rI0 fun i j => V.bl (decide (i ≤ j))) (rI0 fun i j => V.bl (decide (i ≤ j))) (tVar 4) (tVar 2) (tVar 5))) (tRet (tVar 2)) tNext))
        (tRz (fun cls d _ H => E cls d H) (tMkO T.CF (sp_Fault___init__ T) [] (tCons (tFld K (tVar 0) "at") tNil))) ⟨fun _ H' => Q .non H', Q, fun _ _ => False, fun _ _ => False⟩
        [some (.ref x), some (.ref sa), some (.int (foundI f)), v3, none, none] H') := by
      intro hf
      rw [hf] at kE kO
      walk_at "u"
      refine f_list (K := K) (a := sa) (xs := us) (fun j σ H2 => ∃ v4 v5, σ = [some (.ref x), some (.ref sa), some (.int (foundI f)), v3, v4, v5] ∧ H2 = H' ∧ ∀ v, f = some v → Sm.inSp sp v = Sm.inSp (sp.drop j) v) hS2 ⟨none, none, rfl, rfl, fun _ _ => rfl⟩ (fun j σ H2 _ ⟨_, _, _, e, _⟩ => by rw [e]; exact hS2) ?_ ?_
      · rintro j y σ H2 hy ⟨v4, v5, rfl, rfl, hin⟩
        have hj : j < sp.length := by rw [← hlen]; exact (List.getElem?_eq_some_iff.mp hy).1
        obtain ⟨v, hv, hd⟩ := dps_get hD2 (i := j) (d := encS sp[j]) (by rw [List.getElem?_map, List.getElem?_eq_getElem hj]; rfl)
        rw [hy] at hv
        cases hv
        obtain ⟨p, rfl, hp⟩ := dp_pair hd
        rw [List.drop_eq_getElem_cons hj] at hin
        generalize sp[j] = s at hp hin
        have hin2 : ∀ v, f = some v → Sm.inSp sp v = ((decide (s.1 ≤ v) && decide (v ≤ s.2)) || Sm.inSp (sp.drop (j + 1)) v) := hin
        refine u_gt hp rfl ?_
        walk_at "u"
        refine ite_d (fun h1 => ?_) (fun h1 => ?_)
        · walk_at "u"
          cases f with
          | none => exfalso; have : (s.1 : Int) ≤ -1 := h1; omega
          | some v =>
            have h1' : (s.1 : Int) ≤ v := h1
            refine ite_d (fun h2 => ?_) (fun h2 => ?_)
            · have h2' : (v : Int) ≤ s.2 := h2
              walk_at "u"
              refine kO v k ?_ _ hK hx2
              show (if Sm.inSp sp v = true then Except.ok (v, k) else _) = _
              rw [hin2 v rfl, decide_eq_true (by omega), decide_eq_true (by omega)]
              rfl
            · have h2' : ¬ (v : Int) ≤ s.2 := h2
              walk_at "u"
              refine ⟨_, _, rfl, rfl, fun u hu => ?_⟩
              cases hu
              rw [hin2 v rfl, decide_eq_false (p := v ≤ s.2) (by omega), Bool.and_false, Bool.false_or]
        · walk_at "u"
          refine ⟨_, _, rfl, rfl, fun u hu => ?_⟩
          subst hu
          have h1' : ¬ (s.1 : Int) ≤ u := h1
          rw [hin2 u rfl, decide_eq_false (p := s.1 ≤ u) (by omega), Bool.false_and, Bool.false_or]
      · rintro σ H2 ⟨v4, v5, rfl, rfl, hin⟩
        walk_at "u"
        refine r_at T hx2 ?_
        walk_at "u"
        refine r_raise T rfl (Fl.on (kE k ?_) hK)
        cases f with
        | none => rfl
        | some v =>
          show (if Sm.inSp sp v = true then Except.ok (v, k) else _) = _
          rw [hin v rfl, hlen, List.drop_length]
          rfl
    walk_at "u"
    refine r_meth T hx2 ?_
    walk_at "u"
    refine ⟨x, dx, oa, dc, b, i + k, rfl, hx2, hL2, fun r hr => ?_⟩
    walk_at "u"
    have stop : ¬ (48 ≤ r ∧ r ≤ 57 ∧ f ≠ some 0) → R = .ok (f, k) := by
      intro hn
      rw [hR]
      cases e : b.drop (i + k) with
      | nil => rfl
      | cons c t =>
        have : r = c.toNat := hr.trans (Sm.hd_cons e)
        rw [Sm.numL, if_neg (fun z => hn ⟨by omega, by omega, z.2.2⟩)]
    refine ite_d (fun h1 => ?_) (fun h1 => ?_)
    · walk_at "u"
      refine ite_d (fun h2 => ?_) (fun h2 => ?_)
      · walk_at "u"
        refine ite_d (fun h3 => ?_) (fun h3 => ?_)
        · refine u_body ?_
          have h3' := (found_ne f).mp h3
          have hlt := Sm.hd_lt (b := b) (n := i + k) (by omega)
          obtain ⟨c, hc, hh, hdr⟩ := hd_some (b := b) (i := i + k) hlt
          have hrc : r = c.toNat := hr.trans hh
          rw [hdr, Sm.numL, if_pos ⟨by omega, by omega, h3'⟩] at hR
          walk_at "u"
          refine u_max ?_
          rw [found_max]
          walk_at "u"
          refine u_I (Or.inr ⟨by decide, by decide⟩) ?_
          walk_at "u"
          refine r_meth T hx2 ?_
          walk_at "u"
          refine ⟨x, dx, oa, dc, b, i + k, rfl, hx2, hL2, fun r2 hr2 => ?_⟩
          walk_at "u"
          have em : ((f.getD 0 : Nat) : Int) * 10 + r2 - 48 = ((f.getD 0 * 10 + (c.toNat - 48) : Nat) : Int) := by omega
          rw [em]
          refine ⟨f.getD 0 * 10 + (c.toNat - 48), sa, us, sp, rfl, hS2, hD2, hs, fun q hq => ?_⟩
          walk_at "u"
          refine ite_nb (fun h4 => ?_) (fun h4 => ?_)
          · walk_at "u"
            refine r_at T hx2 ?_
            walk_at "u"
            refine r_raise T rfl (Fl.on (kE k ?_) hK)
            rw [hR, ← hq, h4]
            rfl
          · walk_at "u"
            refine r_at T hx2 ?_
            walk_at "u"
            refine r_set T (j := i + (k + 1)) hx2 (by omega) ?_
            rw [← hq, h4, if_pos rfl] at hR
            refine ⟨b.length - (i + (k + 1)), by omega, some (f.getD 0 * 10 + (c.toNat - 48)), k + 1, _, rfl, hK.trans Keep.upd, upd_same, rfl, ?_⟩
            exact hR
        · repeat (first | ((with_reducible refine id_seq ?_); exact fin (stop fun z => h3 ((found_ne f).mpr z.2.2))) | walk_at "u1")
      · repeat (first | ((with_reducible refine id_seq ?_); exact fin (stop fun z => h2 z.2.1)) | walk_at "u1")
    · repeat (first | ((with_reducible refine id_seq ?_); exact fin (stop fun z => h1 z.1)) | walk_at "u1")
end
end Sr
namespace Sr
open PySem PySem.Spec PyProof.Rows L2
open Fh (Bytes)
def encR (l : List (Nat × Nat)) : PyData := .tuple (l.map encS)
theorem canLay_pairs : ∀ l : List (Nat × Nat), PyData.canLayAll0 (l.map encS) = true
  | [] => rfl
  | s :: l => by
    rw [List.map_cons, PyData.canLayAll0, canLay_pairs l]
    rfl
theorem depth_pairs : ∀ l : List (Nat × Nat), PyData.depthAll (l.map encS) ≤ 1
  | [] => Nat.zero_le _
  | s :: l => by
    rw [List.map_cons, PyData.depthAll]
    exact Nat.max_le.mpr ⟨Nat.le_refl 1, depth_pairs l⟩
theorem shaped_pairs (l : List (Nat × Nat)) : SeqAt.shaped (.list (l.map encS)) = true := by
  have h := depth_pairs l
  unfold SeqAt.shaped
  rw [PyData.canLay0, canLay_pairs, PyData.depth, Bool.true_and, decide_eq_true_eq]
  omega
theorem eqv_nil : ∀ ds : List PyData, PyData.eqvAll ds [] = ds.isEmpty
  | [] => rfl
  | _ :: _ => by simp [PyData.eqvAll]
theorem u_eqNil {K : PySem.W.Frag} {H : Hp} {Q : VK} {a e : Addr} {us : List V} {ds : List PyData} (ha : SqL K H a us) (hd : DpAll K H us ds) (hs : SeqAt.shaped (.list ds) = true) (he : SqL K H e []) (h : Q (.bl ds.isEmpty) H) : rEqD K (.ref a) (.ref e) H Q := by
  refine ⟨_, _, .lst ha hd, .lst he .nil, hs, shaped_ints [], ?_⟩
  rw [PyData.eqv, eqv_nil]
  exact h
theorem reg_isEmpty {l : List (Nat × Nat)} : (l.reverse.map encS).isEmpty = decide (l = []) := by
  cases l with
  | nil => rfl
  | cons a l => simp
/-- one span, made as it stands: [(lo, hi)] -/
theorem one_span {K : PySem.W.Frag} {H : Hp} {p q : Addr} {lo hi : Nat} (hp : H p = none) (hq : upd H p (.tup [.int lo, .int hi]) q = none) :
    SqL K (upd (upd H p (.tup [.int lo, .int hi])) q (.lst [.ref p])) q [.ref p] ∧ DpAll K (upd (upd H p (.tup [.int lo, .int hi])) q (.lst [.ref p])) [.ref p] ([(lo, hi)].map encS) := by
  refine ⟨Or.inl (Or.inl upd_same), .cons (dp_mk2 (Or.inl (Or.inl ?_))) .nil⟩
  have : p ≠ q := fun z => by rw [← z, upd_same] at hq; cases hq
  rw [upd_ne this]
  exact upd_same
section
variable {P : Program} {w : World} {K : PySem.W.Frag} {mg : Str → Option Value} {base : Heap}
def sp_Reading_ranges (T : Txt K mg) : Sp := fun vs H Q E => ∃ (x dx oa dc : Addr) (b : Bytes) (i : Nat), vs = [.ref x] ∧ RAt T H x dx oa dc i ∧ LI K H oa (bI b) ∧ b.length ≤ 900000 ∧
  (∀ k, Sm.rangesL b (b.length + 1) i [] = .error k → Fl T E x H k) ∧
  ∀ rs n, Sm.rangesL b (b.length + 1) i [] = .ok (rs, n) → ∀ v H', Keep x H H' → RAt T H' x dx oa dc n → Dp K H' v (encR rs) → Q v H'
theorem tupD_S (s : Nat × Nat) : tupD (encS s) = true := rfl
theorem tupD_R (l : List (Nat × Nat)) : tupD (encR l) = true := by unfold encR; rw [tupD]; exact tupDs_map tupD_S l
theorem ok_Reading_ranges (T : Txt K mg) : FnOk P w K mg base (L2.CX P w) 4 T.m_Reading_ranges.a T.m_Reading_ranges.fd ["self"] (sp_Reading_ranges T) := by
  refine T.m_Reading_ranges.F.okX sc_Reading_ranges (fun vs H Q E h => ?_) (fun cdv A outer s H vs Q E hr h => ⟨_, (pss_cons (ps_par (i := 1) (j := 2) (by rfl) sc_Reading_ranges.nd rfl rfl (by decide) rfl rfl (pa_cons (pe_lst pa_nil) (pa_cons pe_int pa_nil)) (by rfl))
 (pss_cons (ps_while (passes_of rfl) (PW.pt (pw_or (pt_cmpR (eqDK K hr.units) (pv 1) (pe_lst pa_nil) (nomark _)) (pw_or1 (PW.pt (pw_and (pt_cmpR op_eq (pe_meth0 (pv 0) T.cl_Reading T.m_Reading_here.m (ok_Reading_here T) (hr.mono (by decide)) T.m_Reading_here.b .nil pass0) (pe_gi T.c_BLANK) (nomark _)) (pw_and1 (pt_cmpR op_le (pv 2) (pe_gi T.c_GREATEST) (nomark _)))))))) (pss_cons (ps_expr (pe_meth (pv 0) T.cl_Reading T.m_Reading_take.m (ok_Reading_take T) (hr.mono (by decide)) T.m_Reading_take.b .nil (passes_call (takes_of rfl rfl rfl rfl) (fun _ _ _ _ h => h)) (pa_cons (pe_gi T.c_BLANK) pa_nil)))
 (pss_cons (ps_set (i := 3) sc_Reading_ranges.nd rfl (Or.inl rfl) (pe_meth (pv 0) T.cl_Reading T.m_Reading_number.m (ok_Reading_number T) (hr.mono (by decide)) T.m_Reading_number.b .nil (passes_call (takes_of rfl rfl rfl rfl) (fun _ _ _ _ h => h)) (pa_cons (pe_lst (pa_cons (pe_tup (pa_cons (pv 2) (pa_cons (pe_gi T.c_GREATEST) pa_nil))) pa_nil)) pa_nil)))
 (pss_cons (ps_expr (pe_meth (pv 0) T.cl_Reading T.m_Reading_take.m (ok_Reading_take T) (hr.mono (by decide)) T.m_Reading_take.b .nil (passes_call (takes_of rfl rfl rfl rfl) (fun _ _ _ _ h => h)) (pa_cons (pe_gi T.c_MINUS) pa_nil)))
 (pss_cons (ps_set (i := 4) sc_Reading_ranges.nd rfl (Or.inl rfl) (pe_meth (pv 0) T.cl_Reading T.m_Reading_number.m (ok_Reading_number T) (hr.mono (by decide)) T.m_Reading_number.b .nil (passes_call (takes_of rfl rfl rfl rfl) (fun _ _ _ _ h => h)) (pa_cons (pe_lst (pa_cons (pe_tup (pa_cons (pv 3) (pa_cons (pe_gi T.c_GREATEST) pa_nil))) pa_nil)) pa_nil)))
 (pss_cons (ps_expr (bmK K PySem.F.plainAttrs_list PySem.F.slot_list_append PySem.F.type_list_append mt_append (pv 1) (pa_cons (pe_tup (pa_cons (pv 3) (pa_cons (pv 4) pa_nil))) pa_nil)))
 (pss_one (ps_set (i := 2) sc_Reading_ranges.nd rfl (Or.inl rfl) (pe_op op_add (pv 4) pe_int)))))))))
 (pss_one (ps_ret (pe_callTy (cr_tuple K) rfl T.b_tuple (by decide +kernel) (pa_cons (pv 1) pa_nil)))))), ?_⟩)
  · obtain ⟨_, _, _, _, _, _, rfl, _⟩ := h; rfl
  · obtain ⟨x, dx, oa, dc, b, i, rfl, hx, hL, hbl, kE, kO⟩ := h
    walk_at "u"
    refine ⟨by show 0 ≤ sizeLine; decide, fun fl hfl => ?_⟩
    have hflx : fl ≠ x := fun z => by rw [z, hx] at hfl; cases hfl
    generalize hR0 : Sm.rangesL b (b.length + 1) i [] = R at kE kO
    walk_at "u"
    refine f_while (fun m σ H' => ∃ (n : Nat) (l : List (Nat × Nat)) (us : List V) (v3 v4 : Option V), σ = [some (.ref x), some (.ref fl), some (.int (Sm.leastR l : Nat)), v3, v4] ∧ Keep x H H' ∧ RAt T H' x dx oa dc n ∧ H' fl = some (.lst us) ∧ DpAll K H' us (l.reverse.map encS) ∧
        R = Sm.rangesL b m n l ∧ b.length - n < m ∧ l.length ≤ n ∧ (l ≠ [] → l.length ≤ b.length)) (m := b.length + 1)
      ⟨i, [], [], none, none, rfl, Keep.new hfl, (upd_ne hflx.symm).trans hx, upd_same, .nil, hR0.symm, by omega, Nat.zero_le _, fun z => absurd rfl z⟩ ?_
    rintro m σ H' ⟨n, l, us, v3, v4, rfl, hK, hx2, hf2, hD, hR, hm, hln, hlb⟩
    obtain ⟨m, rfl⟩ : ∃ j, m = j + 1 := ⟨m - 1, by omega⟩
    rw [Sm.rangesL] at hR
    have hulen : us.length = l.length := by rw [dps_len hD, List.length_map, List.length_reverse]
    refine tt_cut (decide (l = [] ∨ (Sm.hd b n = 32 ∧ Sm.leastR l ≤ 1114111))) (fun QT q => ?_) (fun H3 s3 => ?_)
    · walk_at "u"
      refine ⟨by show 0 ≤ sizeLine; decide, fun e he => ?_⟩
      have s1 := same_new (o := .lst []) he
      refine u_eqNil (same_l s1 (Or.inl (Or.inl hf2))) (dps_same s1 hD) (by rw [List.map_reverse, ← List.map_reverse]; exact shaped_pairs _) (Or.inl (Or.inl upd_same)) ?_
      rw [reg_isEmpty]
      walk_at "u"
      refine ite_d (fun h1 => ?_) (fun h1 => ?_)
      · exact q _ _ s1 (decide_eq_true (Or.inl h1)).symm
      · walk_at "u"
        refine r_meth T (s1 _ _ hx2) ?_
        walk_at "u"
        refine ⟨x, dx, oa, dc, b, n, rfl, s1 _ _ hx2, (hK.trans (Keep.same s1)).l hx hL, fun r hr => ?_⟩
        walk_at "u"
        refine ite_d (fun h2 => ?_) (fun h2 => ?_)
        · walk_at "u"
          refine q _ _ s1 (decide_eq_decide.mpr ⟨fun z => Or.inr ⟨by omega, by omega⟩, fun z => ?_⟩)
          rcases z with z | z
          · exact absurd z h1
          · have := z.2; omega
        · refine q _ _ s1 (decide_eq_false fun z => ?_).symm
          rcases z with z | z
          · exact h1 z
          · exact h2 (by omega)
    · have hK3 : Keep x H H3 := hK.trans (Keep.same s3)
      have hx3 := s3 _ _ hx2
      have hf3 := s3 _ _ hf2
      have hD3 := dps_same s3 hD
      refine ite_d (fun hc => ?_) (fun hc => ?_)
      · rw [if_pos hc] at hR
        refine u_body ?_
        walk_at "u"
        refine r_meth T hx3 ?_
        walk_at "u"
        refine ⟨x, dx, oa, dc, b, n, 32, rfl, hx3, hK3.l hx hL, fun h32 H4 k4 hx4 => ?_, fun h32 => ?_⟩
        · have hlt := Sm.hd_lt (b := b) (n := n) (by omega)
          have hK4 := hK3.trans k4
          have hl4 : Sm.leastR l ≤ 1114111 := by
            rcases hc with hc | hc
            · subst hc; decide
            · exact hc.2
          rw [if_neg (by omega)] at hR
          walk_at "u"
          refine r_meth T hx4 ?_
          walk_at "u"
          refine ⟨by show 2 ≤ sizeLine; decide, fun p hp => ?_⟩
          walk_at "u"
          refine ⟨by show 1 ≤ sizeLine; decide, fun q hq => ?_⟩
          obtain ⟨hS, hSD⟩ := one_span (K := K) (hi := 1114111) hp hq
          have sq := (same_new (o := .tup [.int (Sm.leastR l : Nat), .int 1114111]) hp).trans (same_new (o := .lst [.ref p]) hq)
          have hK5 := hK4.trans (Keep.same (x := x) sq)
          refine ⟨x, dx, oa, dc, b, n + 1, q, _, [(Sm.leastR l, 1114111)], rfl, sq _ _ hx4, hK5.l hx hL, hS, hSD, (by intro s hs; rw [List.mem_singleton] at hs; subst hs; show 1114111 < 100000000; decide), fun k hk => ?_, fun lo k hk H6 k6 hx6 => ?_⟩
          · rw [hk] at hR
            exact Fl.on (kE _ hR) hK5
          · rw [hk] at hR
            dsimp only at hR
            have hK6 := hK5.trans k6
            walk_at "u"
            refine r_meth T hx6 ?_
            walk_at "u"
            refine ⟨x, dx, oa, dc, b, n + 1 + k, 45, rfl, hx6, hK6.l hx hL, fun h45 H7 k7 hx7 => ?_, fun h45 => ?_⟩
            · rw [if_neg (by omega)] at hR
              have hK7 := hK6.trans k7
              walk_at "u"
              refine r_meth T hx7 ?_
              walk_at "u"
              refine ⟨by show 2 ≤ sizeLine; decide, fun p2 hp2 => ?_⟩
              walk_at "u"
              refine ⟨by show 1 ≤ sizeLine; decide, fun q2 hq2 => ?_⟩
              obtain ⟨hS2, hSD2⟩ := one_span (K := K) (hi := 1114111) hp2 hq2
              have sq2 := (same_new (o := .tup [.int (lo : Nat), .int 1114111]) hp2).trans (same_new (o := .lst [.ref p2]) hq2)
              have hK8 := hK7.trans (Keep.same (x := x) sq2)
              have e1 : n + 1 + k + 1 = n + 2 + k := by omega
              rw [e1] at hx7
              refine ⟨x, dx, oa, dc, b, n + 2 + k, q2, _, [(lo, 1114111)], rfl, sq2 _ _ hx7, hK8.l hx hL, hS2, hSD2, (by intro s hs; rw [List.mem_singleton] at hs; subst hs; show 1114111 < 100000000; decide), fun j hj => ?_, fun hi j hj H9 k9 hx9 => ?_⟩
              · rw [hj] at hR
                exact Fl.on (kE _ hR) hK8
              · rw [hj] at hR
                dsimp only at hR
                have hK9 := hK8.trans k9
                have kk : Keep x H3 H9 := k4.trans ((Keep.same sq).trans (k6.trans (k7.trans ((Keep.same sq2).trans k9))))
                have hf9 : H9 fl = some (.lst us) := kk _ _ hf3 hflx
                have hD9 := kk.ds hx3 hD3
                walk_at "u"
                refine ⟨u_lty hf9, ?_⟩
                walk_at "u"
                refine ⟨by show 2 ≤ sizeLine; decide, fun t ht => ?_⟩
                walk_at "u"
                have hft : fl ≠ t := ne_of_none hf9 ht
                have hxt : x ≠ t := ne_of_none hx9 ht
                have hfl10 : upd H9 t (.tup [.int (lo : Nat), .int (hi : Nat)]) fl = some (.lst us) := (upd_ne hft).trans hf9
                have hle : l.length ≤ b.length := by
                  by_cases hl0 : l = []
                  · subst hl0; exact Nat.zero_le _
                  · exact hlb hl0
                refine u_append (xs := us) hfl10 (size_less (by omega)) ?_
                walk_at "u"
                refine ⟨m, by omega, n + 2 + k + j, (lo, hi) :: l, us ++ [.ref t], _, _, rfl, ?_, ?_, upd_same, ?_, hR, by omega, by rw [List.length_cons]; omega, fun _ => by rw [List.length_cons]; omega⟩
                · exact Keep.mut (hK9.trans (Keep.new ht)) hfl
                · exact (upd_ne hflx.symm).trans ((upd_ne hxt).trans hx9)
                · have kt : Kt H9 (upd (upd H9 t (.tup [.int (lo : Nat), .int (hi : Nat)])) fl (.lst (us ++ [.ref t]))) := (Kt.new ht).trans (Kt.upd hfl10 rfl)
                  rw [List.reverse_cons, List.map_append]
                  refine dps_app (kt.ds (tupDs_map tupD_S _) hD9) (dps_one (dp_mk2 (Or.inl (Or.inl ?_))))
                  exact (upd_ne hft.symm).trans upd_same
            · rw [if_pos (by omega)] at hR
              exact Fl.on (kE _ hR) hK6
        · rw [if_pos (by omega)] at hR
          exact Fl.on (kE _ hR) hK3
      · rw [if_neg hc] at hR
        walk_at "u"
        refine u_tupL (Or.inl (Or.inl hf3)) fun t ht => ?_
        have s4 := same_new (o := .tup us) ht
        exact kO _ _ hR _ _ (hK3.trans (Keep.same s4)) (s4 _ _ hx3) (.tup (Or.inl (Or.inl upd_same)) (dps_same s4 hD3))
end
end Sr
namespace Sr
open PySem PySem.Spec PyProof.Rows L2
open Fh (Bytes)
/-! ### classes -/
/-- all but what stands at x and at y -/
def Keep2 (x y : Addr) (H H' : Hp) : Prop := ∀ p o, H p = some o → p ≠ x → p ≠ y → H' p = some o
theorem Keep2.of {x y : Addr} {H H' : Hp} (k : Keep x H H') : Keep2 x y H H' := fun p o h n _ => k p o h n
theorem Keep2.trans {x y : Addr} {H H1 H2 : Hp} (a : Keep2 x y H H1) (b : Keep2 x y H1 H2) : Keep2 x y H H2 := fun p o h n m => b p o (a p o h n m) n m
theorem Keep2.upd {x y : Addr} {H : Hp} {o : HO} : Keep2 x y H (upd H y o) := fun p u h _ m => by rw [upd_ne m]; exact h
theorem Keep2.l {K : PySem.W.Frag} {x y a : Addr} {H H' : Hp} {xs : List V} {C dx : Addr} {fs : List (Str × V)} {kvs : List (Key × V)} (e : Keep2 x y H H') (hx : H x = some (.ins C dx fs)) (hy : H y = some (.dK kvs)) (h : SqL K H a xs) : SqL K H' a xs := by
  rcases h with h | h
  · refine Or.inl ?_
    rcases h with h | ⟨o, h⟩
    · exact Or.inl (e a _ h (fun z => by rw [z, hx] at h; cases h) (fun z => by rw [z, hy] at h; cases h))
    · exact Or.inr ⟨o, e a _ h (fun z => by rw [z, hx] at h; cases h) (fun z => by rw [z, hy] at h; cases h)⟩
  · exact Or.inr h
/-- the classes that a dict holds, in order -/
def CsAt (K : PySem.W.Frag) (H : Hp) (kvs : List (Key × V)) (cs : Sm.Clss) : Prop := Paired (fun (kv : Key × V) (c : Nat × Sm.Rngs) => kv.1 = Sum.inl (c.1 : Int) ∧ Dp K H kv.2 (encR c.2)) kvs cs
theorem CsAt.kt {K : PySem.W.Frag} {H H' : Hp} {kvs : List (Key × V)} {cs : Sm.Clss} (k : Kt H H') (h : CsAt K H kvs cs) : CsAt K H' kvs cs := L2.Paired.mapP h fun _ c z => ⟨z.1, k.d (tupD_R c.2) z.2⟩
theorem CsAt.keys {K : PySem.W.Frag} {H : Hp} : ∀ {kvs : List (Key × V)} {cs : Sm.Clss}, CsAt K H kvs cs → kvs.map (fun kv => kV kv.1) = cs.map (fun c => V.int (c.1 : Nat))
  | _, _, .nil => rfl
  | _, _, .cons h t => by
    rw [List.map_cons, List.map_cons, CsAt.keys t, h.1]
    rfl
theorem CsAt.none {K : PySem.W.Frag} {H : Hp} {n : Nat} : ∀ {kvs : List (Key × V)} {cs : Sm.Clss}, CsAt K H kvs cs → (∀ c ∈ cs, c.1 ≠ n) → valV kvs (.inl (n : Int)) = none
  | _, _, .nil, _ => rfl
  | _, _, .cons (a := kv) (b := c) h t, hn => by
    rw [valV_neg, CsAt.none t (fun c hc => hn c (List.mem_cons_of_mem _ hc))]
    rw [h.1]
    intro z
    have z2 : (c.1 : Int) = n := Sum.inl.inj z
    exact hn c List.mem_cons_self (by omega)
theorem CsAt.get {K : PySem.W.Frag} {H : Hp} {n : Nat} : ∀ {kvs : List (Key × V)} {cs : Sm.Clss}, CsAt K H kvs cs → ∀ {rs : Sm.Rngs}, cs.lookup n = some rs → ∃ v, valV kvs (.inl (n : Int)) = some v ∧ Dp K H v (encR rs)
  | _, _, .nil, _, h => by cases h
  | _, _, .cons (a := kv) (b := c) h t, rs, hl => by
    by_cases e : c.1 = n
    · have e2 : (n == c.1) = true := by rw [beq_iff_eq]; exact e.symm
      obtain ⟨c1, c2⟩ := c
      simp only [List.lookup, e2] at hl
      cases hl
      refine ⟨kv.2, ?_, h.2⟩
      rw [valV_pos]
      rw [h.1, ← e]
    · have e2 : (n == c.1) = false := by rw [beq_eq_false_iff_ne]; exact fun z => e z.symm
      obtain ⟨c1, c2⟩ := c
      simp only [List.lookup, e2] at hl
      obtain ⟨v, hv, hd⟩ := CsAt.get t hl
      refine ⟨v, ?_, hd⟩
      rw [valV_neg, hv]
      rw [h.1]
      intro z
      have z2 : ((c1 : Nat) : Int) = n := Sum.inl.inj z
      exact e (by show c1 = n; omega)
section
variable {P : Program} {w : World} {K : PySem.W.Frag} {mg : Str → Option Value} {base : Heap}
def Fl2 (T : Txt K mg) (E : XK) (x y : Addr) (H : Hp) (n : Nat) : Prop := ∀ d H', Keep2 x y H H' → H' d = some (.xd [(("place" : Str), .int (n : Int))]) → E (.ref T.CF) (some d) H'
theorem Fl2.on {T : Txt K mg} {E : XK} {x y : Addr} {H H' : Hp} {n : Nat} (f : Fl2 T E x y H n) (k : Keep2 x y H H') : Fl T E x H' n := fun d H2 k2 h => f d H2 (k.trans (Keep2.of k2)) h
theorem leastC_cons (a : Nat) (r : Sm.Rngs) (l : Sm.Clss) : Sm.leastC ((a, r) :: l) = a + 1 := rfl
def sp_Reading_read_classes (T : Txt K mg) : Sp := fun vs H Q E => ∃ (x dx oa dc : Addr) (b : Bytes) (i : Nat), vs = [.ref x] ∧ RAt T H x dx oa dc i ∧ LI K H oa (bI b) ∧ b.length ≤ 900000 ∧ H dc = some (.dK []) ∧
  (∀ k, Sm.classesL b (b.length + 1) i [] = .error k → Fl2 T E x dc H k) ∧
  ∀ cs n, Sm.classesL b (b.length + 1) i [] = .ok (cs, n) → ∀ H' kvs, Keep2 x dc H H' → RAt T H' x dx oa dc n → H' dc = some (.dK kvs) → CsAt K H' kvs cs → Q .non H'
theorem ok_Reading_read_classes (T : Txt K mg) : FnOk P w K mg base (L2.CX P w) 5 T.m_Reading_read_classes.a T.m_Reading_read_classes.fd ["self"] (sp_Reading_read_classes T) := by
  refine T.m_Reading_read_classes.F.okX sc_Reading_read_classes (fun vs H Q E h => ?_) (fun cdv A outer s H vs Q E hr h => ⟨_, (pss_cons (ps_set (i := 1) sc_Reading_read_classes.nd rfl (Or.inl rfl) pe_int)
 (pss_one (ps_while (passes_of rfl) (PW.pt (pw_and (pt_cmpR op_eq (pe_meth0 (pv 0) T.cl_Reading T.m_Reading_here.m (ok_Reading_here T) (hr.mono (by decide)) T.m_Reading_here.b .nil pass0) (pe_gi T.c_CLASS_SIGN) (nomark _)) (pw_and1 (pt_cmpR op_le (pv 1) (pe_gi T.c_LAST_CLASS) (nomark _))))) (pss_cons (sfldK K (pv 0) (pe_op op_add (fldK K (pv 0) rfl) pe_int) rfl)
 (pss_cons (ps_set (i := 2) sc_Reading_read_classes.nd rfl (Or.inl rfl) (pe_meth (pv 0) T.cl_Reading T.m_Reading_number.m (ok_Reading_number T) (hr.mono (by decide)) T.m_Reading_number.b .nil (passes_call (takes_of rfl rfl rfl rfl) (fun _ _ _ _ h => h)) (pa_cons (pe_lst (pa_cons (pe_tup (pa_cons (pv 1) (pa_cons (pe_gi T.c_LAST_CLASS) pa_nil))) pa_nil)) pa_nil)))
 (pss_cons (ps_dput (hu_of hr) (fldK K (pv 0) rfl) (pv 2) (pe_meth0 (pv 0) T.cl_Reading T.m_Reading_ranges.m (ok_Reading_ranges T) (hr.mono (by decide)) T.m_Reading_ranges.b .nil (passes_call (takes_of rfl rfl rfl rfl) (fun _ _ _ _ h => h))) rfl)
 (pss_cons (ps_expr (pe_meth (pv 0) T.cl_Reading T.m_Reading_take.m (ok_Reading_take T) (hr.mono (by decide)) T.m_Reading_take.b .nil (passes_call (takes_of rfl rfl rfl rfl) (fun _ _ _ _ h => h)) (pa_cons (pe_gi T.c_LINE_END) pa_nil)))
 (pss_one (ps_set (i := 1) sc_Reading_read_classes.nd rfl (Or.inl rfl) (pe_op op_add (pv 2) pe_int)))))))))), ?_⟩)
  · obtain ⟨_, _, _, _, _, _, rfl, _⟩ := h; rfl
  · obtain ⟨x, dx, oa, dc, b, i, rfl, hx, hL, hbl, hdc, kE, kO⟩ := h
    generalize hR0 : Sm.classesL b (b.length + 1) i [] = R at kE kO
    walk_at "u"
    refine f_while (fun m σ H' => ∃ (n : Nat) (l : Sm.Clss) (kvs : List (Key × V)) (v2 : Option V), σ = [some (.ref x), some (.int (Sm.leastC l : Nat)), v2] ∧ Keep2 x dc H H' ∧ RAt T H' x dx oa dc n ∧ H' dc = some (.dK kvs) ∧ CsAt K H' kvs l.reverse ∧
        R = Sm.classesL b m n l ∧ b.length - n < m ∧ (∀ c ∈ l, c.1 < Sm.leastC l) ∧ l.length ≤ Sm.leastC l) (m := b.length + 1)
      ⟨i, [], [], none, rfl, fun _ _ h _ _ => h, hx, hdc, .nil, hR0.symm, by omega, (fun c hc => nomatch hc), Nat.le_refl _⟩ ?_
    rintro m σ H' ⟨n, l, kvs, v2, rfl, hK, hx2, hd2, hC, hR, hm, hlt, hll⟩
    obtain ⟨m, rfl⟩ : ∃ j, m = j + 1 := ⟨m - 1, by omega⟩
    rw [Sm.classesL] at hR
    have hL2 := hK.l hx hdc hL
    refine tt_cut (decide (Sm.hd b n = 37 ∧ Sm.leastC l ≤ 15)) (fun QT q => ?_) (fun H3 s3 => ?_)
    · walk_at "u"
      refine r_meth T hx2 ?_
      walk_at "u"
      refine ⟨x, dx, oa, dc, b, n, rfl, hx2, hL2, fun r hr => ?_⟩
      walk_at "u"
      refine ite_d (fun h1 => ?_) (fun h1 => ?_)
      · walk_at "u"
        exact q _ _ (Same.refl _) (decide_eq_decide.mpr ⟨fun z => ⟨by omega, by omega⟩, fun z => by have := z.2; omega⟩)
      · exact q _ _ (Same.refl _) (decide_eq_false fun z => h1 (by omega)).symm
    · have hx3 := s3 _ _ hx2
      have hd3 := s3 _ _ hd2
      have hC3 := hC.kt (Kt.same s3)
      have hK3 : Keep2 x dc H H3 := hK.trans (Keep2.of (Keep.same s3))
      refine ite_d (fun hc => ?_) (fun hc => ?_)
      · rw [if_pos hc] at hR
        have hnl := Sm.hd_lt (b := b) (n := n) (by omega)
        refine u_body ?_
        walk_at "u"
        refine r_at T hx3 ?_
        walk_at "u"
        refine r_set T (j := n + 1) hx3 (by omega) ?_
        have k4 : Keep x H3 (upd H3 x (.ins T.C dx (rF oa (n + 1) dc))) := Keep.upd
        have hdx : dc ≠ x := fun z => by rw [z, hx3] at hd3; cases hd3
        have hx4 : RAt T (upd H3 x (.ins T.C dx (rF oa (n + 1) dc))) x dx oa dc (n + 1) := upd_same
        generalize upd H3 x (.ins T.C dx (rF oa (n + 1) dc)) = H4 at k4 hx4
        have hK4 := hK3.trans (Keep2.of k4)
        walk_at "u"
        refine r_meth T hx4 ?_
        walk_at "u"
        refine ⟨by show 2 ≤ sizeLine; decide, fun p hp => ?_⟩
        walk_at "u"
        refine ⟨by show 1 ≤ sizeLine; decide, fun q hq => ?_⟩
        obtain ⟨hS, hSD⟩ := one_span (K := K) (hi := 15) hp hq
        have sq := (same_new (o := .tup [.int (Sm.leastC l : Nat), .int 15]) hp).trans (same_new (o := .lst [.ref p]) hq)
        have hK5 := hK4.trans (Keep2.of (Keep.same (x := x) sq))
        refine ⟨x, dx, oa, dc, b, n + 1, q, _, [(Sm.leastC l, 15)], rfl, sq _ _ hx4, hK5.l hx hdc hL, hS, hSD, (by intro s hs; rw [List.mem_singleton] at hs; subst hs; show 15 < 100000000; decide), fun k hk => ?_, fun v k hk H6 k6 hx6 => ?_⟩
        · rw [hk] at hR
          exact Fl2.on (kE _ hR) hK5
        · have hin := Sm.num_in hk
          rw [Sm.inSp_one] at hin
          have hin2 := Sm.within_le hin
          rw [hk] at hR
          dsimp only at hR
          have hK6 := hK5.trans (Keep2.of k6)
          walk_at "u"
          refine r_meth T hx6 ?_
          walk_at "u"
          refine ⟨x, dx, oa, dc, b, n + 1 + k, rfl, hx6, hK6.l hx hdc hL, hbl, fun j hj => ?_, fun rs n2 hj u H7 k7 hx7 hd7 => ?_⟩
          · rw [hj] at hR
            exact Fl2.on (kE _ hR) hK6
          · rw [hj] at hR
            have hge := Sm.rangesL_ge _ _ _ _ _ hj
            have hK7 := hK6.trans (Keep2.of k7)
            have kk : Keep x H3 H7 := k4.trans ((Keep.same sq).trans (k6.trans k7))
            have hdc7 : H7 dc = some (.dK kvs) := kk _ _ hd3 hdx
            walk_at "u"
            refine r_classes T hx7 ?_
            walk_at "u"
            have hnone : valV kvs (.inl (v : Int)) = none := hC3.none fun c hc => by
              have := hlt c (List.mem_reverse.mp hc)
              omega
            have hkl : kvs.length = l.length := by rw [hC3.length, List.length_reverse]
            refine u_putI hdc7 (size_less (by omega)) ?_
            rw [putK_new u hnone]
            have kt8 : Kt H7 (upd H7 dc (.dK (kvs ++ [(.inl (v : Int), u)]))) := Kt.upd hdc7 rfl
            have hx8 : RAt T (upd H7 dc (.dK (kvs ++ [(.inl (v : Int), u)]))) x dx oa dc n2 := (upd_ne hdx.symm).trans hx7
            have hd8 : upd H7 dc (.dK (kvs ++ [(.inl (v : Int), u)])) dc = some (.dK (kvs ++ [(.inl (v : Int), u)])) := upd_same
            have hK8 : Keep2 x dc H (upd H7 dc (.dK (kvs ++ [(.inl (v : Int), u)]))) := hK7.trans Keep2.upd
            have hC8 : CsAt K (upd H7 dc (.dK (kvs ++ [(.inl (v : Int), u)]))) (kvs ++ [(.inl (v : Int), u)]) (l.reverse ++ [(v, rs)]) := Paired.snoc (hC3.kt ((kk.kt hx3).trans kt8)) ⟨rfl, kt8.d (tupD_R rs) hd7⟩
            generalize upd H7 dc (.dK (kvs ++ [(.inl (v : Int), u)])) = H8 at hx8 hd8 hK8 hC8
            walk_at "u"
            refine r_meth T hx8 ?_
            walk_at "u"
            refine ⟨x, dx, oa, dc, b, n2, 10, rfl, hx8, hK8.l hx hdc hL, fun h10 H9 k9 hx9 => ?_, fun h10 => ?_⟩
            · walk_at "u"
              have hR2 : R = Sm.classesL b m (n2 + 1) ((v, rs) :: l) := by
                rw [hR]
                show (match (if Sm.hd b n2 = 10 then Except.ok (rs, n2 + 1) else .error n2 : Except Nat (Sm.Rngs × Nat)) with | .error k => _ | .ok y => _) = _
                rw [if_pos h10]
              dsimp only at hge
              refine ⟨m, by omega, n2 + 1, (v, rs) :: l, _, _, rfl, hK8.trans (Keep2.of k9), hx9, k9 _ _ hd8 hdx, ?_, hR2, by omega, ?_, ?_⟩
              · rw [List.reverse_cons]
                exact hC8.kt (k9.kt hx8)
              · intro c hc
                rw [leastC_cons]
                rw [List.mem_cons] at hc
                rcases hc with rfl | hc
                · show v < v + 1; omega
                · have := hlt c hc; omega
              · rw [leastC_cons, List.length_cons]; omega
            · refine Fl2.on (kE _ ?_) hK8
              rw [hR]
              show (match (if Sm.hd b n2 = 10 then Except.ok (rs, n2 + 1) else .error n2 : Except Nat (Sm.Rngs × Nat)) with | .error k => _ | .ok y => _) = _
              rw [if_neg h10]
      · rw [if_neg hc] at hR
        exact kO _ _ hR _ _ hK3 hx3 hd3 hC3
end
end Sr
namespace Sr
open PySem PySem.Spec PyProof.Rows L2
open Fh (Bytes)
def natI (l : List Nat) : List Int := l.map fun (c : Nat) => (c : Int)
def encT (l : List Nat) : PyData := .tuple ((natI l).map PyData.int)
theorem tupD_T (l : List Nat) : tupD (encT l) = true := by unfold encT; rw [tupD]; exact tupDs_map (fun _ => rfl) _
def encA : Fh.Atom → PyData
  | .any => .tuple [.int 0, .int 0]
  | .cls k => .tuple [.int 1, .int k]
  | .lit t => .tuple [.int 2, encT t]
theorem tupD_A (a : Fh.Atom) : tupD (encA a) = true := by
  cases a with
  | any => rfl
  | cls k => rfl
  | lit t => show (true && (tupD (encT t) && true)) = true; rw [tupD_T]; rfl
def encI (i : Fh.Item) : PyData := .tuple [encA i.atom, .int i.least, .int i.most]
theorem tupD_I (i : Fh.Item) : tupD (encI i) = true := by show (tupD (encA i.atom) && (true && (true && true))) = true; rw [tupD_A]; rfl
section
variable {P : Program} {w : World} {K : PySem.W.Frag} {mg : Str → Option Value} {base : Heap}
theorem cutB_all (b : Bytes) (i : Nat) : cutB b i b.length = b.drop i := by unfold cutB; rw [List.take_length]
theorem natI_len (l : List Nat) : (natI l).length = l.length := List.length_map ..
theorem natI_nil {l : List Nat} : natI l.reverse = [] ↔ l = [] := by
  unfold natI
  rw [List.map_eq_nil_iff, List.reverse_eq_nil_iff]
def sp_Reading_certain (T : Txt K mg) : Sp := fun vs H Q E => ∃ (x dx oa dc : Addr) (b : Bytes) (i : Nat), vs = [.ref x] ∧ RAt T H x dx oa dc i ∧ LI K H oa (bI b) ∧ b.length ≤ 900000 ∧ i ≤ b.length ∧
  (∀ k, Sm.certL ((b.drop i).length + 1) 0 [] (b.drop i) = .error k → Fl T E x H (i + k)) ∧
  ∀ l n, Sm.certL ((b.drop i).length + 1) 0 [] (b.drop i) = .ok (l, n) → ∀ v H', Keep x H H' → RAt T H' x dx oa dc (i + n) → Dp K H' v (encT l) → Q v H'
theorem ok_Reading_certain (T : Txt K mg) : FnOk P w K mg base (L2.CX P w) 3 T.m_Reading_certain.a T.m_Reading_certain.fd ["self"] (sp_Reading_certain T) := by
  refine T.m_Reading_certain.F.okX sc_Reading_certain (fun vs H Q E h => ?_) (fun cdv A outer s H vs Q E hr h => ⟨_, (pss_cons (ps_set (i := 1) sc_Reading_certain.nd rfl (Or.inl rfl) (pe_lst pa_nil))
 (pss_cons (ps_while (passes_of rfl) (PW.pt (pw_or (pt_cmpR (eqDK K hr.units) (pv 1) (pe_lst pa_nil) (nomark _)) (pw_or1 (pt_cmpR op_ne (pe_meth0 (pv 0) T.cl_Reading T.m_Reading_here.m (ok_Reading_here T) (hr.mono (by decide)) T.m_Reading_here.b .nil pass0) (pe_gi T.c_QUOTE) (nomark _))))) (pss_cons (ps_asg (pe_call (ok_character_at T) (hr.mono (by decide)) rfl T.f_character_at.g T.f_character_at.F.kp T.f_character_at.b .nil pass0 (pa_cons (fldK K (pv 0) rfl) (pa_cons (fldK K (pv 0) rfl) (pa_cons (pe_callB (cr_len K) rfl T.b_len PySem.boot_len (pa_cons (fldK K (pv 0) rfl) pa_nil)) pa_nil)))) (gtK K (n := 2) rfl (pgs_cons (pg_name (i := 2) sc_Reading_certain.nd rfl (Or.inl rfl)) (pgs_cons (pg_name (i := 3) sc_Reading_certain.nd rfl (Or.inl rfl)) pgs_nil))))
 (pss_cons (ps_if (pt_cmpR op_lt (pv 2) pe_int (nomark _)) (pss_one (ps_rz rfl (takes_of rfl rfl rfl rfl) (pmk_oex T.ox T.ix T.tx (ok_Fault___init__ T) (hr.mono (by decide)) T.bI .nil pass0 rfl T.g_Fault (pa_cons (pv 3) pa_nil)))) pss_nil)
 (pss_cons (ps_if (pt_cmpR op_eq (pv 2) (pe_gi T.c_QUOTE) (nomark _)) (pss_one (ps_rz rfl (takes_of rfl rfl rfl rfl) (pmk_oex T.ox T.ix T.tx (ok_Fault___init__ T) (hr.mono (by decide)) T.bI .nil pass0 rfl T.g_Fault (pa_cons (fldK K (pv 0) rfl) pa_nil)))) pss_nil)
 (pss_cons (ps_expr (bmK K PySem.F.plainAttrs_list PySem.F.slot_list_append PySem.F.type_list_append mt_append (pv 1) (pa_cons (pv 2) pa_nil)))
 (pss_one (sfldK K (pv 0) (pv 3) rfl)))))))
 (pss_cons (sfldK K (pv 0) (pe_op op_add (fldK K (pv 0) rfl) pe_int) rfl)
 (pss_one (ps_ret (pe_callTy (cr_tuple K) rfl T.b_tuple (by decide +kernel) (pa_cons (pv 1) pa_nil))))))), ?_⟩)
  · obtain ⟨_, _, _, _, _, _, rfl, _⟩ := h; rfl
  · obtain ⟨x, dx, oa, dc, b, i, rfl, hx, hL, hbl, hib, kE, kO⟩ := h
    walk_at "u"
    refine ⟨by show 0 ≤ sizeLine; decide, fun fl hfl => ?_⟩
    have hflx : fl ≠ x := fun z => by rw [z, hx] at hfl; cases hfl
    have hbd : (b.drop i).length = b.length - i := List.length_drop ..
    generalize hR0 : Sm.certL ((b.drop i).length + 1) 0 [] (b.drop i) = R at kE kO
    walk_at "u"
    refine f_while (fun m σ H' => ∃ (n : Nat) (l : List Nat) (v2 v3 : Option V), σ = [some (.ref x), some (.ref fl), v2, v3] ∧ Keep x H H' ∧ RAt T H' x dx oa dc (i + n) ∧ H' fl = some (.lst ((natI l.reverse).map V.int)) ∧
        R = Sm.certL m n l (b.drop (i + n)) ∧ b.length - (i + n) < m ∧ l.length ≤ n ∧ i + n ≤ b.length) (m := (b.drop i).length + 1)
      ⟨0, [], none, none, rfl, Keep.new hfl, (upd_ne hflx.symm).trans hx, upd_same, hR0.symm, by rw [hbd]; omega, Nat.zero_le _, by omega⟩ ?_
    rintro m σ H' ⟨n, l, v2, v3, rfl, hK, hx2, hf2, hR, hm, hln, hnb⟩
    obtain ⟨m, rfl⟩ : ∃ j, m = j + 1 := ⟨m - 1, by omega⟩
    rw [Sm.certL, show Sm.headI (b.drop (i + n)) = Sm.hd b (i + n) from rfl] at hR
    have hL2 := hK.l hx hL
    refine tt_cut (decide (l = [] ∨ Sm.hd b (i + n) ≠ 34)) (fun QT q => ?_) (fun H3 s3 => ?_)
    · walk_at "u"
      refine ⟨by show 0 ≤ sizeLine; decide, fun e he => ?_⟩
      have s1 := same_new (o := .lst []) he
      refine u_eqL (ns := natI l.reverse) (ms := []) (same_l s1 (Or.inl (Or.inl hf2))) (li_of upd_same) ?_
      walk_at "u"
      refine ite_d (fun h1 => ?_) (fun h1 => ?_)
      · exact q _ _ s1 (decide_eq_true (Or.inl (natI_nil.mp h1))).symm
      · walk_at "u"
        refine r_meth T (s1 _ _ hx2) ?_
        walk_at "u"
        refine ⟨x, dx, oa, dc, b, i + n, rfl, s1 _ _ hx2, same_l s1 hL2, fun r hr => ?_⟩
        walk_at "u"
        refine q _ _ s1 (decide_eq_decide.mpr ⟨fun z => Or.inr (by omega), fun z => ?_⟩)
        rcases z with z | z
        · exact absurd (natI_nil.mpr z) h1
        · omega
    · have hK3 : Keep x H H3 := hK.trans (Keep.same s3)
      have hx3 := s3 _ _ hx2
      have hf3 := s3 _ _ hf2
      have hL3 := same_l s3 hL2
      refine ite_d (fun hc => ?_) (fun hc => ?_)
      · rw [if_pos hc] at hR
        refine u_body ?_
        walk_at "u"
        refine r_octets T hx3 ?_
        walk_at "u"
        refine r_at T hx3 ?_
        walk_at "u"
        refine r_octets T hx3 ?_
        walk_at "u"
        refine u_lenL hL3 ?_
        walk_at "u"
        rw [map_int_len, bI_len]
        refine ⟨oa, b, i + n, b.length, rfl, hL3, hnb, Nat.le_refl _, by omega, fun p H4 z s4 hz hp4 => ?_⟩
        rw [cutB_all, Sm.charM_eq] at hz
        have hx4 := s4 _ _ hx3
        have hK4 := hK3.trans (Keep.same (x := x) s4)
        walk_at "u"
        refine u_gt (SqT.of hp4) rfl ?_
        walk_at "u"
        cases hch : Fh.charHere (b.drop (i + n)) with
        | error k =>
          rw [hch] at hz hR
          have hz1 : z.1 = -1 ∧ z.2 = ((i + n + k : Nat) : Int) := by rw [hz]; exact ⟨rfl, rfl⟩
          rw [hz1.1, hz1.2]
          refine ite_d (fun h5 => ?_) (fun h5 => absurd (show (-1 : Int) < 0 by decide) h5)
          walk_at "u"
          refine r_raise T (n := i + (n + k)) (by omega) (Fl.on (kE _ hR) hK4)
        | ok y =>
          rw [hch] at hz hR
          have hz1 : z.1 = (y.1 : Int) ∧ z.2 = ((i + n + y.2 : Nat) : Int) := by rw [hz]; exact ⟨rfl, rfl⟩
          rw [hz1.1, hz1.2]
          have hpos := Sm.charHere_pos hch
          rw [List.length_drop] at hpos
          dsimp only at hR
          refine ite_d (fun h5 => absurd h5 (by omega)) (fun h5 => ?_)
          walk_at "u"
          refine ite_d (fun h6 => ?_) (fun h6 => ?_)
          · rw [if_pos (by omega)] at hR
            walk_at "u"
            refine r_at T hx4 ?_
            walk_at "u"
            exact r_raise T rfl (Fl.on (kE _ hR) hK4)
          · rw [if_neg (by omega)] at hR
            have hf4 := s4 _ _ hf3
            walk_at "u"
            refine ⟨u_lty hf4, ?_⟩
            walk_at "u"
            refine u_append hf4 (size_less (by rw [map_int_len, natI_len, List.length_reverse]; omega)) ?_
            walk_at "u"
            have hx5 : RAt T (upd H4 fl (.lst ((natI l.reverse).map V.int ++ [.int (y.1 : Int)]))) x dx oa dc (i + n) := (upd_ne hflx.symm).trans hx4
            refine r_set T (j := i + (n + y.2)) hx5 (by omega) ?_
            rw [List.drop_drop] at hR
            refine ⟨m, by omega, n + y.2, y.1 :: l, _, _, rfl, ?_, upd_same, ?_, ?_, by omega, by rw [List.length_cons]; omega, by omega⟩
            · exact (Keep.mut hK4 hfl).trans Keep.upd
            · rw [upd_ne hflx, upd_same, List.reverse_cons]
              unfold natI
              rw [List.map_append, List.map_append]
              rfl
            · rw [hR]; congr 2; omega
      · rw [if_neg hc] at hR
        walk_at "u"
        refine r_at T hx3 ?_
        walk_at "u"
        have h34 : Sm.hd b (i + n) = 34 := Decidable.byContradiction fun z => hc (Or.inr z)
        refine r_set T (j := i + (n + 1)) hx3 (by omega) ?_
        walk_at "u"
        have hf4 : upd H3 x (.ins T.C dx (rF oa (i + (n + 1)) dc)) fl = some (.lst ((natI l.reverse).map V.int)) := (upd_ne hflx).trans hf3
        refine u_tupL (Or.inl (Or.inl hf4)) fun t ht => ?_
        have htx : x ≠ t := fun z => by rw [← z, upd_same] at ht; cases ht
        exact kO _ _ hR _ _ ((hK3.trans Keep.upd).trans (Keep.new ht)) ((upd_ne htx).trans upd_same) (.tup (Or.inl (Or.inl upd_same)) (dp_ints _))
theorem at_tup0 {K : PySem.W.Frag} {H : Hp} {a b : V} : atI [a, b] 0 = some a := rfl
def sp_Reading_atom (T : Txt K mg) : Sp := fun vs H Q E => ∃ (x dx oa dc : Addr) (b : Bytes) (i : Nat) (kvs : List (Key × V)) (cs : Sm.Clss), vs = [.ref x] ∧ RAt T H x dx oa dc i ∧ LI K H oa (bI b) ∧ b.length ≤ 900000 ∧ H dc = some (.dK kvs) ∧ CsAt K H kvs cs ∧ (∀ c ∈ cs, c.1 ≤ 15) ∧ cs.length ≤ 16 ∧
  (∀ k, Sm.atomM (cs.map fun c => c.1) (b.drop i) = .error k → Fl T E x H (i + k)) ∧
  ∀ a n, Sm.atomM (cs.map fun c => c.1) (b.drop i) = .ok (a, n) → ∀ v H', Keep x H H' → RAt T H' x dx oa dc (i + n) → Dp K H' v (encA a) → Q v H'
theorem own_enc (cs : Sm.Clss) : (Sm.own (cs.map fun c => c.1)) = cs.map fun c => (c.1, c.1) := by unfold Sm.own; rw [List.map_map]; rfl
theorem ok_Reading_atom (T : Txt K mg) : FnOk P w K mg base (L2.CX P w) 4 T.m_Reading_atom.a T.m_Reading_atom.fd ["self"] (sp_Reading_atom T) := by
  refine T.m_Reading_atom.F.okX sc_Reading_atom (fun vs H Q E h => ?_) (fun cdv A outer s H vs Q E hr h => ⟨_, (pss_cons (ps_set (i := 1) sc_Reading_atom.nd rfl (Or.inl rfl) (pe_meth0 (pv 0) T.cl_Reading T.m_Reading_here.m (ok_Reading_here T) (hr.mono (by decide)) T.m_Reading_here.b .nil pass0))
 (pss_cons (ps_if (PW.pt (pw_or (pt_cmpR (ninK K) (pv 1) (pe_tup (pa_cons (pe_gi T.c_DOT) (pa_cons (pe_gi T.c_CLASS_SIGN) (pa_cons (pe_gi T.c_QUOTE) pa_nil)))) (by rfl)) (pw_or1 (PW.pt (pw_and (pt_cmpR op_eq (pv 1) (pe_gi T.c_CLASS_SIGN) (nomark _)) (pw_and1 (pt_cmpR (op_eqDict hr.units) (fldK K (pv 0) rfl) pe_dnewK (nomark _)))))))) (pss_one (ps_rz rfl (takes_of rfl rfl rfl rfl) (pmk_oex T.ox T.ix T.tx (ok_Fault___init__ T) (hr.mono (by decide)) T.bI .nil pass0 rfl T.g_Fault (pa_cons (fldK K (pv 0) rfl) pa_nil)))) pss_nil)
 (pss_cons (sfldK K (pv 0) (pe_op op_add (fldK K (pv 0) rfl) pe_int) rfl)
 (pss_cons (ps_if (pt_cmpR op_eq (pv 1) (pe_gi T.c_DOT) (nomark _)) (pss_one (ps_ret (pe_tup (pa_cons (pe_gi T.c_ANY) (pa_cons pe_int pa_nil))))) pss_nil)
 (pss_cons (ps_if (pt_cmpR op_eq (pv 1) (pe_gi T.c_CLASS_SIGN) (nomark _)) (pss_one (ps_ret (pe_tup (pa_cons (pe_gi T.c_OF_CLASS) (pa_cons (pe_meth (pv 0) T.cl_Reading T.m_Reading_number.m (ok_Reading_number T) (hr.mono (by decide)) T.m_Reading_number.b .nil (passes_call (takes_of rfl rfl rfl rfl) (fun _ _ _ _ h => h)) (pa_cons (pe_lc (own := [("number", 2)]) rfl sc_Reading_atom.nd (piLK K (pe_callTy (call_list_dK rfl) rfl T.b_list (by decide +kernel) (pa_cons (fldK K (pv 0) rfl) pa_nil))) (blkOk_by (own := [("number", 2)]) (N := ["self", "sign", "number"]) (sc := defScope s_Reading_atom) (by decide +kernel)) (fun _ _ _ _ _ => (pg_name (i := 2) sc_Reading_atom.nd rfl (Or.inl rfl))) (fun _ _ _ _ _ => pts_nil) (fun _ _ _ _ _ => (pe_tup (pa_cons (pv 2) (pa_cons (pv 2) pa_nil))))) pa_nil)) pa_nil))))) pss_nil)
 (pss_one (ps_ret (pe_tup (pa_cons (pe_gi T.c_CERTAIN) (pa_cons (pe_meth0 (pv 0) T.cl_Reading T.m_Reading_certain.m (ok_Reading_certain T) (hr.mono (by decide)) T.m_Reading_certain.b .nil (passes_call (takes_of rfl rfl rfl rfl) (fun _ _ _ _ h => h))) pa_nil)))))))))), ?_⟩)
  · obtain ⟨_, _, _, _, _, _, _, _, rfl, _⟩ := h; rfl
  · obtain ⟨x, dx, oa, dc, b, i, kvs, cs, rfl, hx, hL, hbl, hdc, hC, hc15, hcl, kE, kO⟩ := h
    walk_at "u"
    refine r_meth T hx ?_
    walk_at "u"
    refine ⟨x, dx, oa, dc, b, i, rfl, hx, hL, fun r hr => ?_⟩
    walk_at "ui"
    have hkl : kvs.length = cs.length := hC.length
    have hdx : dc ≠ x := fun z => by rw [z, hx] at hdc; cases hdc
    refine tt_cut (decide (¬ (r = 46 ∨ r = 37 ∨ r = 34) ∨ (r = 37 ∧ cs = []))) (fun QT q => ?_) (fun H3 s3 => ?_)
    · walk_at "u"
      refine ⟨by show 3 ≤ sizeLine; decide, fun p hp => ?_⟩
      have s1 := same_new (o := .tup [.int 46, .int 37, .int 34]) hp
      refine u_nin (Or.inr (SqT.of upd_same)) rfl rfl ?_
      walk_at "u"
      have e1 : inV (.int r) [.int 46, .int 37, .int 34] = decide (r = 46 ∨ r = 37 ∨ r = 34) := by
        simp only [inV, List.any_cons, eqV, List.any_nil, Bool.or_false]
        rw [Bool.eq_iff_iff]
        simp only [Bool.or_eq_true, beq_iff_eq, decide_eq_true_eq]
        omega
      rw [e1]
      refine ite_nd (fun h1 => ?_) (fun h1 => ?_)
      · exact q _ _ s1 (decide_eq_true (Or.inl h1)).symm
      · walk_at "u"
        refine ite_d (fun h2 => ?_) (fun h2 => ?_)
        · walk_at "u"
          refine r_classes T (s1 _ _ hx) ?_
          walk_at "u"
          intro e he
          have s2 := s1.trans (same_new (o := .dK []) he)
          refine u_eqE (s2 _ _ hdc) upd_same ?_
          walk_at "u"
          refine q _ _ s2 ?_
          have e2 : kvs.isEmpty = decide (cs = []) := by
            cases cs with
            | nil => rw [List.length_eq_zero_iff.mp hkl]; rfl
            | cons c t =>
              cases kvs with
              | nil => cases hkl
              | cons a t2 => rfl
          rw [e2]
          exact decide_eq_decide.mpr ⟨fun z => Or.inr ⟨h2, z⟩, fun z => z.elim (fun z => absurd h1 z) (fun z => z.2)⟩
        · refine q _ _ s1 (decide_eq_false fun z => ?_).symm
          rcases z with z | z
          · exact z h1
          · exact h2 z.1
    · have hx3 := s3 _ _ hx
      have hdc3 := s3 _ _ hdc
      have hne : (cs.map fun c => c.1) ≠ [] ↔ cs ≠ [] := by simp
      refine ite_d (fun hb => ?_) (fun hb => ?_)
      · walk_at "u"
        refine r_at T hx3 ?_
        walk_at "u"
        refine r_raise T (n := i) rfl (Fl.on (kE 0 ?_) (Keep.same s3))
        cases hd : b.drop i with
        | nil => rfl
        | cons c t =>
          have hrc : r = c.toNat := hr.trans (Sm.hd_cons hd)
          rw [Sm.atomM, if_neg (by rcases hb with z | z <;> omega), if_neg (fun z => hb.elim (fun y => y (by omega)) (fun y => hne.mp z.2 y.2)), if_neg (by rcases hb with z | z <;> omega)]
      · have hlt : i < b.length := Sm.hd_lt (by rw [← hr]; omega)
        obtain ⟨c, hc, hh, hd⟩ := hd_some hlt
        have hrc : r = c.toNat := hr.trans hh
        rw [hd] at kE kO
        walk_at "u"
        refine r_at T hx3 ?_
        walk_at "u"
        refine r_set T (j := i + 1) hx3 (by omega) ?_
        have hx4 : RAt T (upd H3 x (.ins T.C dx (rF oa (i + 1) dc))) x dx oa dc (i + 1) := upd_same
        have k4 : Keep x H (upd H3 x (.ins T.C dx (rF oa (i + 1) dc))) := (Keep.same s3).trans Keep.upd
        generalize upd H3 x (.ins T.C dx (rF oa (i + 1) dc)) = H4 at hx4 k4
        walk_at "u"
        refine ite_d (fun h5 => ?_) (fun h5 => ?_)
        · walk_at "u"
          refine ⟨by show 2 ≤ sizeLine; decide, fun p hp => ?_⟩
          have s5 := same_new (o := .tup [.int 0, .int 0]) hp
          refine kO .any 1 ?_ _ _ (k4.trans (Keep.same s5)) (s5 _ _ hx4) (dp_mk2 (SqT.of upd_same))
          rw [Sm.atomM, if_pos (by omega)]
        · walk_at "u"
          refine ite_d (fun h6 => ?_) (fun h6 => ?_)
          · have hcs : cs ≠ [] := fun z => hb (Or.inr ⟨h6, z⟩)
            have hat : Sm.atomM (cs.map fun c => c.1) (c :: b.drop (i + 1)) = match Sm.numM (Sm.own (cs.map fun c => c.1)) (b.drop (i + 1)) with
                | .ok x => .ok (.cls x.1, x.2 + 1)
                | .error k => .error (k + 1) := by
              rw [Sm.atomM, if_neg (by omega), if_pos ⟨by omega, hne.mpr hcs⟩]
              all_goals (cases Sm.numM (Sm.own (cs.map fun c => c.1)) (b.drop (i + 1)) <;> rfl)
            rw [hat, own_enc] at kE kO
            walk_at "u"
            refine r_meth T hx4 ?_
            walk_at "u"
            refine r_classes T hx4 ?_
            walk_at "u"
            have hdc4 := k4 _ _ hdc hdx
            refine ⟨dc, kvs, rfl, hdc4, fun l hl => ?_⟩
            have s5 := same_new (o := .lst (kvs.map fun kv => kV kv.1)) hl
            have hx5 := s5 _ _ hx4
            have k5 := k4.trans (Keep.same (x := x) s5)
            have hl5 : upd H4 l (.lst (kvs.map fun kv => kV kv.1)) l = some (.lst (kvs.map fun kv => kV kv.1)) := upd_same
            generalize upd H4 l (.lst (kvs.map fun kv => kV kv.1)) = H5 at hx5 k5 hl5
            refine c_list (K := K) (a := l) (xs := kvs.map fun kv => kV kv.1) (fun D j H' => ∃ us, H' D = some (.lst us) ∧ DpAll K H' us ((cs.take j).map fun c => encS (c.1, c.1)) ∧ Same H5 H') (Or.inl (Or.inl hl5)) (fun D hD => ⟨[], upd_same, .nil, same_new hD⟩) (fun D j H' hD _ ⟨_, _, _, s⟩ => same_l s (Or.inl (Or.inl hl5))) ?_ ?_
            · rintro D j y H' hD hy ⟨us, hu, hdp, s6⟩
              rw [hC.keys, List.getElem?_map] at hy
              obtain ⟨cc, hcc, rfl⟩ := Option.map_eq_some_iff.mp hy
              have hj : j < cs.length := (List.getElem?_eq_some_iff.mp hcc).1
              walk_at "u"
              refine ⟨rfl, ?_⟩
              walk_at "u"
              refine ⟨by show 2 ≤ sizeLine; decide, fun t ht => ?_⟩
              have hDt : D ≠ t := ne_of_none hu ht
              have hu7 : upd H' t (.tup [.int (cc.1 : Nat), .int (cc.1 : Nat)]) D = some (.lst us) := (upd_ne hDt).trans hu
              have hul : us.length = (cs.take j).length := by rw [dps_len hdp, List.length_map]
              refine ⟨us, hu7, size_less (by rw [hul, List.length_take]; omega), ?_⟩
              refine ⟨us ++ [.ref t], upd_same, ?_, same_mut (same_then s6 ht) hD⟩
              rw [List.take_add_one, hcc, List.map_append]
              have kt : Kt H' (upd (upd H' t (.tup [.int (cc.1 : Nat), .int (cc.1 : Nat)])) D (.lst (us ++ [.ref t]))) := (Kt.new ht).trans (Kt.upd hu7 rfl)
              refine dps_app (kt.ds (tupDs_map (fun c => tupD_S _) _) hdp) (dps_one (dp_mk2 (SqT.of ?_)))
              exact (upd_ne hDt.symm).trans upd_same
            · rintro D H' hD ⟨us, hu, hdp, s6⟩
              have e7 : (cs.take (kvs.map fun kv => kV kv.1).length).map (fun c => encS (c.1, c.1)) = (cs.map fun c => (c.1, c.1)).map encS := by
                rw [List.length_map, hkl, List.take_length, List.map_map]; rfl
              rw [e7] at hdp
              walk_at "u"
              have k6 := k5.trans (Keep.same (x := x) s6)
              refine ⟨x, dx, oa, dc, b, i + 1, D, us, cs.map fun c => (c.1, c.1), rfl, s6 _ _ hx5, k6.l hx hL, Or.inl (Or.inl hu), hdp, ?_, fun k hk => ?_, fun v k hk H7 k7 hx7 => ?_⟩
              · intro s hs
                obtain ⟨c, hc, rfl⟩ := List.mem_map.mp hs
                have := hc15 c hc
                show c.1 < 100000000
                omega
              · rw [hk] at kE
                have := kE (k + 1) rfl
                rw [show i + (k + 1) = i + 1 + k by omega] at this
                exact Fl.on this k6
              · rw [hk] at kO
                walk_at "u"
                refine ⟨by show 2 ≤ sizeLine; decide, fun t ht => ?_⟩
                have s8 := same_new (o := .tup [.int 1, .int (v : Nat)]) ht
                rw [show i + 1 + k = i + (k + 1) by omega] at hx7
                exact kO (.cls v) (k + 1) rfl _ _ ((k6.trans k7).trans (Keep.same s8)) (s8 _ _ hx7) (dp_mk2 (SqT.of upd_same))
          · have h34 : c.toNat = 34 := by omega
            have hat : Sm.atomM (cs.map fun c => c.1) (c :: b.drop (i + 1)) = match Sm.certL ((b.drop (i + 1)).length + 1) 0 [] (b.drop (i + 1)) with
                | .ok x => .ok (.lit x.1, x.2 + 1)
                | .error k => .error (k + 1) := by
              rw [Sm.atomM, if_neg (by omega), if_neg (fun z => by omega), if_pos h34]
              all_goals (cases Sm.certL ((b.drop (i + 1)).length + 1) 0 [] (b.drop (i + 1)) <;> rfl)
            rw [hat] at kE kO
            walk_at "u"
            refine r_meth T hx4 ?_
            walk_at "u"
            refine ⟨x, dx, oa, dc, b, i + 1, rfl, hx4, k4.l hx hL, hbl, by omega, fun k hk => ?_, fun l k hk v H7 k7 hx7 hv => ?_⟩
            · rw [hk] at kE
              have := kE (k + 1) rfl
              rw [show i + (k + 1) = i + 1 + k by omega] at this
              exact Fl.on this k4
            · rw [hk] at kO
              walk_at "u"
              refine ⟨by show 2 ≤ sizeLine; decide, fun t ht => ?_⟩
              have s8 := same_new (o := .tup [.int 2, v]) ht
              rw [show i + 1 + k = i + (k + 1) by omega] at hx7
              exact kO (.lit l) (k + 1) rfl _ _ ((k4.trans k7).trans (Keep.same s8)) (s8 _ _ hx7) (.tup (SqT.of upd_same) (.cons (.int 2) (.cons (dp_same s8 hv) .nil)))
end
end Sr
namespace Sr
open PySem PySem.Spec PyProof.Rows L2
open Fh (Bytes)
section
variable {P : Program} {w : World} {K : PySem.W.Frag} {mg : Str → Option Value} {base : Heap}
/-- all that reading goes on -/
structure RSt (T : Txt K mg) (H : Hp) (x dx oa dc : Addr) (b : Bytes) (i : Nat) (kvs : List (Key × V)) (cs : Sm.Clss) : Prop where
  at_ : RAt T H x dx oa dc i
  oc : LI K H oa (bI b)
  bl : b.length ≤ 900000
  hd : H dc = some (.dK kvs)
  cl : CsAt K H kvs cs
  c15 : ∀ c ∈ cs, c.1 ≤ 15
  c16 : cs.length ≤ 16
theorem RSt.on {T : Txt K mg} {H H' : Hp} {x dx oa dc : Addr} {b : Bytes} {i j : Nat} {kvs : List (Key × V)} {cs : Sm.Clss} (r : RSt T H x dx oa dc b i kvs cs) (k : Keep x H H') (h : RAt T H' x dx oa dc j) : RSt T H' x dx oa dc b j kvs cs :=
  ⟨h, k.l r.at_ r.oc, r.bl, k _ _ r.hd (fun z => by have := r.hd; rw [z, r.at_] at this; cases this), r.cl.kt (k.kt r.at_), r.c15, r.c16⟩
theorem RSt.same {T : Txt K mg} {H H' : Hp} {x dx oa dc : Addr} {b : Bytes} {i : Nat} {kvs : List (Key × V)} {cs : Sm.Clss} (r : RSt T H x dx oa dc b i kvs cs) (k : Same H H') : RSt T H' x dx oa dc b i kvs cs := r.on (Keep.same k) (k _ _ r.at_)
abbrev keysOf (cs : Sm.Clss) : List Nat := cs.map fun c => c.1
def sp_Reading_item (T : Txt K mg) : Sp := fun vs H Q E => ∃ (x dx oa dc : Addr) (b : Bytes) (i : Nat) (kvs : List (Key × V)) (cs : Sm.Clss), vs = [.ref x] ∧ RSt T H x dx oa dc b i kvs cs ∧
  (∀ k, Sm.itemM (keysOf cs) (b.drop i) = .error k → Fl T E x H (i + k)) ∧
  ∀ a n, Sm.itemM (keysOf cs) (b.drop i) = .ok (a, n) → ∀ v H', Keep x H H' → RAt T H' x dx oa dc (i + n) → Dp K H' v (encI a) → Q v H'
theorem dp_item {H : Hp} {p : Addr} {va : V} {a : Fh.Atom} {lo hi : Nat} (h : SqT K H p [va, .int lo, .int hi]) (ha : Dp K H va (encA a)) : Dp K H (.ref p) (encI ⟨a, lo, hi⟩) := .tup h (.cons ha (.cons (.int _) (.cons (.int _) .nil)))
theorem ok_Reading_item (T : Txt K mg) : FnOk P w K mg base (L2.CX P w) 5 T.m_Reading_item.a T.m_Reading_item.fd ["self"] (sp_Reading_item T) := by
  refine T.m_Reading_item.F.okX sc_Reading_item (fun vs H Q E h => ?_) (fun cdv A outer s H vs Q E hr h => ⟨_, (pss_cons (ps_set (i := 1) sc_Reading_item.nd rfl (Or.inl rfl) (pe_meth0 (pv 0) T.cl_Reading T.m_Reading_atom.m (ok_Reading_atom T) (hr.mono (by decide)) T.m_Reading_atom.b .nil (passes_call (takes_of rfl rfl rfl rfl) (fun _ _ _ _ h => h))))
 (pss_cons (ps_if (pt_cmpR op_ne (pe_meth0 (pv 0) T.cl_Reading T.m_Reading_here.m (ok_Reading_here T) (hr.mono (by decide)) T.m_Reading_here.b .nil pass0) (pe_gi T.c_STAR) (nomark _)) (pss_one (ps_ret (pe_tup (pa_cons (pv 1) (pa_cons pe_int (pa_cons pe_int pa_nil)))))) pss_nil)
 (pss_cons (sfldK K (pv 0) (pe_op op_add (fldK K (pv 0) rfl) pe_int) rfl)
 (pss_cons (ps_set (i := 2) sc_Reading_item.nd rfl (Or.inl rfl) (pe_meth (pv 0) T.cl_Reading T.m_Reading_number.m (ok_Reading_number T) (hr.mono (by decide)) T.m_Reading_number.b .nil (passes_call (takes_of rfl rfl rfl rfl) (fun _ _ _ _ h => h)) (pa_cons (pe_lst (pa_cons (pe_tup (pa_cons pe_int (pa_cons (pe_gi T.c_MOST_TIMES) pa_nil))) pa_nil)) pa_nil)))
 (pss_cons (ps_expr (pe_meth (pv 0) T.cl_Reading T.m_Reading_take.m (ok_Reading_take T) (hr.mono (by decide)) T.m_Reading_take.b .nil (passes_call (takes_of rfl rfl rfl rfl) (fun _ _ _ _ h => h)) (pa_cons (pe_gi T.c_MINUS) pa_nil)))
 (pss_one (ps_ret (pe_tup (pa_cons (pv 1) (pa_cons (pv 2) (pa_cons (pe_meth (pv 0) T.cl_Reading T.m_Reading_number.m (ok_Reading_number T) (hr.mono (by decide)) T.m_Reading_number.b .nil (passes_call (takes_of rfl rfl rfl rfl) (fun _ _ _ _ h => h)) (pa_cons (pe_lst (pa_cons (pe_tup (pa_cons (pe_ifExp (pt_cmpR op_eq (pv 2) pe_int (nomark _)) pe_int (pv 2)) (pa_cons (pe_gi T.c_MOST_TIMES) pa_nil))) pa_nil)) pa_nil)) pa_nil))))))))))), ?_⟩)
  · obtain ⟨_, _, _, _, _, _, _, _, rfl, _⟩ := h; rfl
  · obtain ⟨x, dx, oa, dc, b, i, kvs, cs, rfl, hr0, kE, kO⟩ := h
    unfold Sm.itemM at kE kO
    walk_at "u"
    refine r_meth T hr0.at_ ?_
    walk_at "u"
    refine ⟨x, dx, oa, dc, b, i, kvs, cs, rfl, hr0.at_, hr0.oc, hr0.bl, hr0.hd, hr0.cl, hr0.c15, hr0.c16, fun k hk => ?_, fun a n hk v H1 k1 hx1 hv1 => ?_⟩
    · rw [show keysOf cs = cs.map fun c => c.1 from rfl, hk] at kE
      exact kE k rfl
    · rw [show keysOf cs = cs.map fun c => c.1 from rfl, hk] at kE kO
      dsimp only at kE kO
      rw [List.drop_drop] at kE kO
      unfold Sm.timesM at kE kO
      have r1 := hr0.on k1 hx1
      walk_at "u"
      refine r_meth T hx1 ?_
      walk_at "u"
      refine ⟨x, dx, oa, dc, b, i + n, rfl, hx1, r1.oc, fun r hr => ?_⟩
      rw [show Sm.headI (b.drop (i + n)) = r from hr.symm] at kE kO
      walk_at "u"
      refine ite_d (fun h1 => ?_) (fun h1 => ?_)
      · rw [if_pos h1] at kO
        walk_at "u"
        refine ⟨by show 3 ≤ sizeLine; decide, fun t ht => ?_⟩
        have s2 := same_new (o := .tup [v, .int 1, .int 1]) ht
        exact kO _ _ rfl _ _ (k1.trans (Keep.same s2)) (s2 _ _ hx1) (dp_item (SqT.of upd_same) (dp_same s2 hv1))
      · rw [if_neg h1, List.drop_drop] at kE kO
        walk_at "u"
        refine r_at T hx1 ?_
        walk_at "u"
        refine r_set T (j := i + n + 1) hx1 (by omega) ?_
        have hx2 : RAt T (upd H1 x (.ins T.C dx (rF oa (i + n + 1) dc))) x dx oa dc (i + n + 1) := upd_same
        have k2 : Keep x H1 (upd H1 x (.ins T.C dx (rF oa (i + n + 1) dc))) := Keep.upd
        generalize upd H1 x (.ins T.C dx (rF oa (i + n + 1) dc)) = H2 at hx2 k2
        have hv2 := (k2.kt hx1).d (tupD_A a) hv1
        walk_at "u"
        refine r_meth T hx2 ?_
        walk_at "u"
        refine ⟨by show 2 ≤ sizeLine; decide, fun p hp => ?_⟩
        walk_at "u"
        refine ⟨by show 1 ≤ sizeLine; decide, fun q hq => ?_⟩
        obtain ⟨hS, hSD⟩ := one_span (K := K) (lo := 0) (hi := 32) hp hq
        have sq := (same_new (o := .tup [.int (0 : Nat), .int 32]) hp).trans (same_new (o := .lst [.ref p]) hq)
        have k3 := (k1.trans k2).trans (Keep.same (x := x) sq)
        refine ⟨x, dx, oa, dc, b, i + n + 1, q, _, [(0, 32)], rfl, sq _ _ hx2, k3.l hr0.at_ hr0.oc, hS, hSD, (by intro s hs; rw [List.mem_singleton] at hs; subst hs; show 32 < 100000000; decide), fun j hj => ?_, fun lo j hj H4 k4 hx4 => ?_⟩
        · rw [hj] at kE
          have := kE (n + (j + 1)) rfl
          rw [show i + (n + (j + 1)) = i + n + 1 + j by omega] at this
          exact Fl.on this k3
        · rw [hj] at kE kO
          dsimp only at kE kO
          rw [List.drop_drop, List.drop_drop] at kE kO
          rw [show Sm.headI (b.drop (i + n + (1 + j))) = Sm.hd b (i + n + 1 + j) by rw [show i + n + (1 + j) = i + n + 1 + j by omega]; rfl] at kE kO
          have k5 := k3.trans k4
          have hv4 := (k4.kt (sq _ _ hx2)).d (tupD_A a) (dp_same sq hv2)
          walk_at "u"
          refine r_meth T hx4 ?_
          walk_at "u"
          refine ⟨x, dx, oa, dc, b, i + n + 1 + j, 45, rfl, hx4, k5.l hr0.at_ hr0.oc, fun h45 H5 k6 hx5 => ?_, fun h45 => ?_⟩
          · rw [if_neg (by omega)] at kE kO
            have k7 := k5.trans k6
            have hv5 := (k6.kt hx4).d (tupD_A a) hv4
            walk_at "u"
            refine r_meth T hx5 ?_
            walk_at "u"
            have fin : ∀ z : Nat, z = (if lo = 1 then 2 else lo) → ∀ H6, Same H5 H6 → ∀ (p2 : Addr), H6 p2 = none → ∀ q2, upd H6 p2 (.tup [.int (z : Nat), .int 32]) q2 = none →
                sp_Reading_number T [.ref x, .ref q2] (upd (upd H6 p2 (.tup [.int (z : Nat), .int 32])) q2 (.lst [.ref p2])) (fun u H7 => [v, V.int lo, u].length ≤ sizeLine ∧ ∀ p, H7 p = none → Q (.ref p) (upd H7 p (.tup [v, .int lo, u]))) E := by
              intro z hz H6 s6 p2 hp2 q2 hq2
              obtain ⟨hS2, hSD2⟩ := one_span (K := K) (lo := z) (hi := 32) hp2 hq2
              have sq2 := s6.trans ((same_new (o := .tup [.int (z : Nat), .int 32]) hp2).trans (same_new (o := .lst [.ref p2]) hq2))
              have k8 := k7.trans (Keep.same (x := x) sq2)
              refine ⟨x, dx, oa, dc, b, i + n + 1 + j + 1, q2, _, [(z, 32)], rfl, sq2 _ _ hx5, k8.l hr0.at_ hr0.oc, hS2, hSD2, (by intro s hs; rw [List.mem_singleton] at hs; subst hs; show 32 < 100000000; decide), fun m hm => ?_, fun hi m hm H9 k9 hx9 => ?_⟩
              · rw [show i + n + (j + 2) = i + n + 1 + j + 1 by omega, ← hz, hm] at kE
                have := kE (n + (j + 2 + m)) rfl
                rw [show i + (n + (j + 2 + m)) = i + n + 1 + j + 1 + m by omega] at this
                exact Fl.on this k8
              · rw [show i + n + (j + 2) = i + n + 1 + j + 1 by omega, ← hz, hm] at kO
                refine ⟨by show 3 ≤ sizeLine; decide, fun t ht => ?_⟩
                have s10 := same_new (o := .tup [v, .int (lo : Nat), .int (hi : Nat)]) ht
                rw [show i + n + 1 + j + 1 + m = i + (n + (j + 2 + m)) by omega] at hx9
                exact kO _ _ rfl _ _ ((k8.trans k9).trans (Keep.same s10)) (s10 _ _ hx9) (dp_item (SqT.of upd_same) (dp_same s10 ((k9.kt (sq2 _ _ hx5)).d (tupD_A a) (dp_same sq2 hv5))))
            refine ite_d (fun h7 => ?_) (fun h7 => ?_)
            · walk_at "u"
              refine ⟨by show 2 ≤ sizeLine; decide, fun p2 hp2 => ?_⟩
              walk_at "u"
              refine ⟨by show 1 ≤ sizeLine; decide, fun q2 hq2 => ?_⟩
              exact fin 2 (by rw [if_pos (by omega)]) _ (Same.refl _) _ hp2 _ hq2
            · walk_at "u"
              refine ⟨by show 2 ≤ sizeLine; decide, fun p2 hp2 => ?_⟩
              walk_at "u"
              refine ⟨by show 1 ≤ sizeLine; decide, fun q2 hq2 => ?_⟩
              exact fin lo (by rw [if_neg (by omega)]) _ (Same.refl _) _ hp2 _ hq2
          · rw [if_pos (by omega)] at kE
            have := kE (n + (j + 1)) rfl
            rw [show i + (n + (j + 1)) = i + n + 1 + j by omega] at this
            exact Fl.on this k5
end
end Sr
namespace Sr
open PySem PySem.Spec PyProof.Rows L2
open Fh (Bytes)
def encIs (l : List Fh.Item) : PyData := .tuple (l.map encI)
theorem tupD_Is (l : List Fh.Item) : tupD (encIs l) = true := by unfold encIs; rw [tupD]; exact tupDs_map tupD_I l
def encRule (r : Fh.Rule) : PyData := .tuple [.bool r.cut, .bool r.start, encIs r.before, encIs r.behind, .bool r.halt_]
theorem tupD_Rule (r : Fh.Rule) : tupD (encRule r) = true := by
  show (true && (true && (tupD (encIs r.before) && (tupD (encIs r.behind) && (true && true))))) = true
  rw [tupD_Is, tupD_Is]; rfl
section
variable {P : Program} {w : World} {K : PySem.W.Frag} {mg : Str → Option Value} {base : Heap}
def sp_Reading_items_before (T : Txt K mg) : Sp := fun vs H Q E => ∃ (x dx oa dc : Addr) (b : Bytes) (i : Nat) (kvs : List (Key × V)) (cs : Sm.Clss), vs = [.ref x] ∧ RSt T H x dx oa dc b i kvs cs ∧
  (∀ k, Sm.beforeL (keysOf cs) b (b.length + 1) i [] = .error k → Fl T E x H k) ∧
  ∀ l n, Sm.beforeL (keysOf cs) b (b.length + 1) i [] = .ok (l, n) → ∀ v H', Keep x H H' → RAt T H' x dx oa dc n → Dp K H' v (encIs l) → Q v H'
theorem ok_Reading_items_before (T : Txt K mg) : FnOk P w K mg base (L2.CX P w) 6 T.m_Reading_items_before.a T.m_Reading_items_before.fd ["self"] (sp_Reading_items_before T) := by
  refine T.m_Reading_items_before.F.okX sc_Reading_items_before (fun vs H Q E h => ?_) (fun cdv A outer s H vs Q E hr h => ⟨_, (pss_cons (ps_set (i := 1) sc_Reading_items_before.nd rfl (Or.inl rfl) (pe_lst pa_nil))
 (pss_cons (ps_while (passes_of rfl) (pt_cmpR op_ne (pe_meth0 (pv 0) T.cl_Reading T.m_Reading_here.m (ok_Reading_here T) (hr.mono (by decide)) T.m_Reading_here.b .nil pass0) (pe_gi T.c_BAR) (nomark _)) (pss_cons (ps_expr (bmK K PySem.F.plainAttrs_list PySem.F.slot_list_append PySem.F.type_list_append mt_append (pv 1) (pa_cons (pe_meth0 (pv 0) T.cl_Reading T.m_Reading_item.m (ok_Reading_item T) (hr.mono (by decide)) T.m_Reading_item.b .nil (passes_call (takes_of rfl rfl rfl rfl) (fun _ _ _ _ h => h))) pa_nil)))
 (pss_one (ps_expr (pe_meth (pv 0) T.cl_Reading T.m_Reading_take.m (ok_Reading_take T) (hr.mono (by decide)) T.m_Reading_take.b .nil (passes_call (takes_of rfl rfl rfl rfl) (fun _ _ _ _ h => h)) (pa_cons (pe_gi T.c_BLANK) pa_nil))))))
 (pss_cons (ps_expr (pe_meth (pv 0) T.cl_Reading T.m_Reading_take.m (ok_Reading_take T) (hr.mono (by decide)) T.m_Reading_take.b .nil (passes_call (takes_of rfl rfl rfl rfl) (fun _ _ _ _ h => h)) (pa_cons (pe_gi T.c_BAR) pa_nil)))
 (pss_one (ps_ret (pe_callTy (cr_tuple K) rfl T.b_tuple (by decide +kernel) (pa_cons (pv 1) pa_nil))))))), ?_⟩)
  · obtain ⟨_, _, _, _, _, _, _, _, rfl, _⟩ := h; rfl
  · obtain ⟨x, dx, oa, dc, b, i, kvs, cs, rfl, hr0, kE, kO⟩ := h
    walk_at "u"
    refine ⟨by show 0 ≤ sizeLine; decide, fun fl hfl => ?_⟩
    have hflx : fl ≠ x := fun z => by have := hr0.at_; rw [z, this] at hfl; cases hfl
    generalize hR0 : Sm.beforeL (keysOf cs) b (b.length + 1) i [] = R at kE kO
    walk_at "u"
    refine f_while (fun m σ H' => ∃ (n : Nat) (l : List Fh.Item) (us : List V), σ = [some (.ref x), some (.ref fl)] ∧ Keep x H H' ∧ RAt T H' x dx oa dc n ∧ H' fl = some (.lst us) ∧ DpAll K H' us (l.reverse.map encI) ∧
        R = Sm.beforeL (keysOf cs) b m n l ∧ b.length - n < m ∧ l.length ≤ n ∧ (l ≠ [] → l.length ≤ b.length)) (m := b.length + 1)
      ⟨i, [], [], rfl, Keep.new hfl, (upd_ne hflx.symm).trans hr0.at_, upd_same, .nil, hR0.symm, by omega, Nat.zero_le _, fun z => absurd rfl z⟩ ?_
    rintro m σ H' ⟨n, l, us, rfl, hK, hx2, hf2, hD, hR, hm, hln, hlb⟩
    obtain ⟨m, rfl⟩ : ∃ j, m = j + 1 := ⟨m - 1, by omega⟩
    rw [Sm.beforeL] at hR
    have r2 := hr0.on hK hx2
    have hulen : us.length = l.length := by rw [dps_len hD, List.length_map, List.length_reverse]
    walk_at "u"
    refine r_meth T hx2 ?_
    walk_at "u"
    refine ⟨x, dx, oa, dc, b, n, rfl, hx2, r2.oc, fun r hr => ?_⟩
    walk_at "u"
    refine ite_d (fun h1 => ?_) (fun h1 => ?_)
    · rw [if_neg (by omega)] at hR
      refine u_body ?_
      walk_at "u"
      refine ⟨u_lty hf2, ?_⟩
      walk_at "u"
      refine r_meth T hx2 ?_
      walk_at "u"
      refine ⟨x, dx, oa, dc, b, n, kvs, cs, rfl, r2, fun k hk => ?_, fun a k hk v H3 k3 hx3 hv => ?_⟩
      · rw [hk] at hR
        exact Fl.on (kE _ hR) hK
      · rw [hk] at hR
        dsimp only at hR
        have hf3 := k3 _ _ hf2 hflx
        have hle : l.length ≤ b.length := by
          by_cases hl0 : l = []
          · subst hl0; exact Nat.zero_le _
          · exact hlb hl0
        walk_at "u"
        refine u_append hf3 (size_less (by have := hr0.bl; omega)) ?_
        have hx4 : RAt T (upd H3 fl (.lst (us ++ [v]))) x dx oa dc (n + k) := (upd_ne hflx.symm).trans hx3
        have kt4 : Kt H3 (upd H3 fl (.lst (us ++ [v]))) := Kt.upd hf3 rfl
        have hf4 : upd H3 fl (.lst (us ++ [v])) fl = some (.lst (us ++ [v])) := upd_same
        have k4 : Keep x H (upd H3 fl (.lst (us ++ [v]))) := Keep.mut (hK.trans k3) hfl
        have hD4 : DpAll K (upd H3 fl (.lst (us ++ [v]))) (us ++ [v]) ((a :: l).reverse.map encI) := by
          rw [List.reverse_cons, List.map_append]
          exact dps_app (kt4.ds (tupDs_map tupD_I _) (k3.ds hx2 hD)) (dps_one (kt4.d (tupD_I a) hv))
        generalize upd H3 fl (.lst (us ++ [v])) = H4 at hx4 kt4 hf4 k4 hD4
        walk_at "u"
        refine r_meth T hx4 ?_
        walk_at "u"
        refine ⟨x, dx, oa, dc, b, n + k, 32, rfl, hx4, k4.l hr0.at_ hr0.oc, fun h32 H5 k5 hx5 => ?_, fun h32 => ?_⟩
        · rw [if_pos h32] at hR
          have hlt := Sm.hd_lt (b := b) (n := n + k) (by omega)
          walk_at "u"
          exact ⟨m, by omega, n + k + 1, a :: l, _, rfl, k4.trans k5, hx5, k5 _ _ hf4 hflx, k5.ds hx4 hD4, hR, by omega, by rw [List.length_cons]; omega, fun _ => by rw [List.length_cons]; omega⟩
        · rw [if_neg h32] at hR
          exact Fl.on (kE _ hR) k4
    · rw [if_pos (by omega)] at hR
      walk_at "u"
      refine r_meth T hx2 ?_
      walk_at "u"
      refine ⟨x, dx, oa, dc, b, n, 124, rfl, hx2, r2.oc, fun h124 H3 k3 hx3 => ?_, fun h124 => absurd (by omega) h124⟩
      have hf3 := k3 _ _ hf2 hflx
      walk_at "u"
      refine u_tupL (Or.inl (Or.inl hf3)) fun t ht => ?_
      have s4 := same_new (o := .tup us) ht
      exact kO _ _ hR _ _ ((hK.trans k3).trans (Keep.same s4)) (s4 _ _ hx3) (.tup (SqT.of upd_same) (dps_same s4 (k3.ds hx2 hD)))
def sp_Reading_items_behind (T : Txt K mg) : Sp := fun vs H Q E => ∃ (x dx oa dc : Addr) (b : Bytes) (i : Nat) (kvs : List (Key × V)) (cs : Sm.Clss), vs = [.ref x] ∧ RSt T H x dx oa dc b i kvs cs ∧
  (∀ k, Sm.behindL (keysOf cs) b (b.length + 1) i [] = .error k → Fl T E x H k) ∧
  ∀ l n, Sm.behindL (keysOf cs) b (b.length + 1) i [] = .ok (l, n) → ∀ p u H', Keep x H H' → RAt T H' x dx oa dc n → H' p = some (.tup [u, .bl l.2]) → Dp K H' u (encIs l.1) → Q (.ref p) H'
theorem ok_Reading_items_behind (T : Txt K mg) : FnOk P w K mg base (L2.CX P w) 6 T.m_Reading_items_behind.a T.m_Reading_items_behind.fd ["self"] (sp_Reading_items_behind T) := by
  refine T.m_Reading_items_behind.F.okX sc_Reading_items_behind (fun vs H Q E h => ?_) (fun cdv A outer s H vs Q E hr h => ⟨_, (pss_cons (ps_set (i := 1) sc_Reading_items_behind.nd rfl (Or.inl rfl) (pe_lst pa_nil))
 (pss_cons (ps_while (passes_of rfl) (pt_cmpR op_eq (pe_meth0 (pv 0) T.cl_Reading T.m_Reading_here.m (ok_Reading_here T) (hr.mono (by decide)) T.m_Reading_here.b .nil pass0) (pe_gi T.c_BLANK) (nomark _)) (pss_cons (sfldK K (pv 0) (pe_op op_add (fldK K (pv 0) rfl) pe_int) rfl)
 (pss_cons (ps_if (pt_cmpR op_eq (pe_meth0 (pv 0) T.cl_Reading T.m_Reading_here.m (ok_Reading_here T) (hr.mono (by decide)) T.m_Reading_here.b .nil pass0) (pe_gi T.c_ENDING) (nomark _)) (pss_cons (sfldK K (pv 0) (pe_op op_add (fldK K (pv 0) rfl) pe_int) rfl)
 (pss_one (ps_ret (pe_tup (pa_cons (pe_callTy (cr_tuple K) rfl T.b_tuple (by decide +kernel) (pa_cons (pv 1) pa_nil)) (pa_cons pe_bl pa_nil)))))) pss_nil)
 (pss_one (ps_expr (bmK K PySem.F.plainAttrs_list PySem.F.slot_list_append PySem.F.type_list_append mt_append (pv 1) (pa_cons (pe_meth0 (pv 0) T.cl_Reading T.m_Reading_item.m (ok_Reading_item T) (hr.mono (by decide)) T.m_Reading_item.b .nil (passes_call (takes_of rfl rfl rfl rfl) (fun _ _ _ _ h => h))) pa_nil)))))))
 (pss_one (ps_ret (pe_tup (pa_cons (pe_callTy (cr_tuple K) rfl T.b_tuple (by decide +kernel) (pa_cons (pv 1) pa_nil)) (pa_cons pe_bl pa_nil))))))), ?_⟩)
  · obtain ⟨_, _, _, _, _, _, _, _, rfl, _⟩ := h; rfl
  · obtain ⟨x, dx, oa, dc, b, i, kvs, cs, rfl, hr0, kE, kO⟩ := h
    walk_at "u"
    refine ⟨by show 0 ≤ sizeLine; decide, fun fl hfl => ?_⟩
    have hflx : fl ≠ x := fun z => by have := hr0.at_; rw [z, this] at hfl; cases hfl
    generalize hR0 : Sm.behindL (keysOf cs) b (b.length + 1) i [] = R at kE kO
    walk_at "u"
    refine f_while (fun m σ H' => ∃ (n : Nat) (l : List Fh.Item) (us : List V), σ = [some (.ref x), some (.ref fl)] ∧ Keep x H H' ∧ RAt T H' x dx oa dc n ∧ H' fl = some (.lst us) ∧ DpAll K H' us (l.reverse.map encI) ∧
        R = Sm.behindL (keysOf cs) b m n l ∧ b.length - n < m ∧ l.length ≤ n ∧ (l ≠ [] → l.length ≤ b.length)) (m := b.length + 1)
      ⟨i, [], [], rfl, Keep.new hfl, (upd_ne hflx.symm).trans hr0.at_, upd_same, .nil, hR0.symm, by omega, Nat.zero_le _, fun z => absurd rfl z⟩ ?_
    rintro m σ H' ⟨n, l, us, rfl, hK, hx2, hf2, hD, hR, hm, hln, hlb⟩
    obtain ⟨m, rfl⟩ : ∃ j, m = j + 1 := ⟨m - 1, by omega⟩
    rw [Sm.behindL] at hR
    have r2 := hr0.on hK hx2
    have hulen : us.length = l.length := by rw [dps_len hD, List.length_map, List.length_reverse]
    walk_at "u"
    refine r_meth T hx2 ?_
    walk_at "u"
    refine ⟨x, dx, oa, dc, b, n, rfl, hx2, r2.oc, fun r hr => ?_⟩
    walk_at "u"
    refine ite_d (fun h1 => ?_) (fun h1 => ?_)
    · rw [if_pos (by omega)] at hR
      have hlt0 := Sm.hd_lt (b := b) (n := n) (by omega)
      refine u_body ?_
      walk_at "u"
      refine r_at T hx2 ?_
      walk_at "u"
      refine r_set T (j := n + 1) hx2 (by omega) ?_
      have hx3 : RAt T (upd H' x (.ins T.C dx (rF oa (n + 1) dc))) x dx oa dc (n + 1) := upd_same
      have k3 : Keep x H' (upd H' x (.ins T.C dx (rF oa (n + 1) dc))) := Keep.upd
      generalize upd H' x (.ins T.C dx (rF oa (n + 1) dc)) = H3 at hx3 k3
      have r3 := r2.on k3 hx3
      have hf3 := k3 _ _ hf2 hflx
      have hD3 := k3.ds hx2 hD
      walk_at "u"
      refine r_meth T hx3 ?_
      walk_at "u"
      refine ⟨x, dx, oa, dc, b, n + 1, rfl, hx3, r3.oc, fun r4 hr4 => ?_⟩
      walk_at "u"
      refine ite_d (fun h2 => ?_) (fun h2 => ?_)
      · rw [if_pos (by omega)] at hR
        walk_at "u"
        refine r_at T hx3 ?_
        walk_at "u"
        refine r_set T (j := n + 2) hx3 (by omega) ?_
        have hx4 : RAt T (upd H3 x (.ins T.C dx (rF oa (n + 2) dc))) x dx oa dc (n + 2) := upd_same
        have k4 : Keep x H3 (upd H3 x (.ins T.C dx (rF oa (n + 2) dc))) := Keep.upd
        generalize upd H3 x (.ins T.C dx (rF oa (n + 2) dc)) = H4 at hx4 k4
        walk_at "u"
        refine u_tupL (Or.inl (Or.inl (k4 _ _ hf3 hflx))) fun t ht => ?_
        have s5 := same_new (o := .tup us) ht
        walk_at "u"
        refine ⟨by show 2 ≤ sizeLine; decide, fun p hp => ?_⟩
        have s6 := s5.trans (same_new (o := .tup [.ref t, .bl true]) hp)
        have htp : t ≠ p := fun z => by rw [← z, upd_same] at hp; cases hp
        exact kO _ _ hR _ (.ref t) _ (((hK.trans k3).trans k4).trans (Keep.same s6)) (s6 _ _ hx4) upd_same (.tup (SqT.of ((upd_ne htp).trans upd_same)) (dps_same s6 (k4.ds hx3 hD3)))
      · rw [if_neg (by omega)] at hR
        walk_at "u"
        refine ⟨u_lty hf3, ?_⟩
        walk_at "u"
        refine r_meth T hx3 ?_
        walk_at "u"
        refine ⟨x, dx, oa, dc, b, n + 1, kvs, cs, rfl, r3, fun k hk => ?_, fun a k hk v H5 k5 hx5 hv => ?_⟩
        · rw [hk] at hR
          exact Fl.on (kE _ hR) (hK.trans k3)
        · rw [hk] at hR
          dsimp only at hR
          have hf5 := k5 _ _ hf3 hflx
          have hle : l.length ≤ b.length := by
            by_cases hl0 : l = []
            · subst hl0; exact Nat.zero_le _
            · exact hlb hl0
          walk_at "u"
          refine u_append hf5 (size_less (by have := hr0.bl; omega)) ?_
          have hx6 : RAt T (upd H5 fl (.lst (us ++ [v]))) x dx oa dc (n + 1 + k) := (upd_ne hflx.symm).trans hx5
          have kt6 : Kt H5 (upd H5 fl (.lst (us ++ [v]))) := Kt.upd hf5 rfl
          walk_at "u"
          refine ⟨m, by omega, n + 1 + k, a :: l, us ++ [v], rfl, Keep.mut ((hK.trans k3).trans k5) hfl, hx6, upd_same, ?_, hR, by omega, by rw [List.length_cons]; omega, fun _ => by rw [List.length_cons]; omega⟩
          rw [List.reverse_cons, List.map_append]
          exact dps_app (kt6.ds (tupDs_map tupD_I _) (k5.ds hx3 hD3)) (dps_one (kt6.d (tupD_I a) hv))
    · rw [if_neg (by omega)] at hR
      walk_at "u"
      refine u_tupL (Or.inl (Or.inl hf2)) fun t ht => ?_
      have s5 := same_new (o := .tup us) ht
      walk_at "u"
      refine ⟨by show 2 ≤ sizeLine; decide, fun p hp => ?_⟩
      have s6 := s5.trans (same_new (o := .tup [.ref t, .bl false]) hp)
      have htp : t ≠ p := fun z => by rw [← z, upd_same] at hp; cases hp
      exact kO _ _ hR _ (.ref t) _ (hK.trans (Keep.same s6)) (s6 _ _ hx2) upd_same (.tup (SqT.of ((upd_ne htp).trans upd_same)) (dps_same s6 hD))
def sp_Reading_read_rule (T : Txt K mg) : Sp := fun vs H Q E => ∃ (x dx oa dc : Addr) (b : Bytes) (i : Nat) (kvs : List (Key × V)) (cs : Sm.Clss), vs = [.ref x] ∧ RSt T H x dx oa dc b i kvs cs ∧
  (∀ k, Sm.ruleM (keysOf cs) b i = .error k → Fl T E x H k) ∧
  ∀ r n, Sm.ruleM (keysOf cs) b i = .ok (r, n) → ∀ v H', Keep x H H' → RAt T H' x dx oa dc n → Dp K H' v (encRule r) → Q v H'
theorem ok_Reading_read_rule (T : Txt K mg) : FnOk P w K mg base (L2.CX P w) 7 T.m_Reading_read_rule.a T.m_Reading_read_rule.fd ["self"] (sp_Reading_read_rule T) := by
  refine T.m_Reading_read_rule.F.okX sc_Reading_read_rule (fun vs H Q E h => ?_) (fun cdv A outer s H vs Q E hr h => ⟨_, (pss_cons (ps_set (i := 1) sc_Reading_read_rule.nd rfl (Or.inl rfl) (pe_cmpR op_eq (pe_meth0 (pv 0) T.cl_Reading T.m_Reading_here.m (ok_Reading_here T) (hr.mono (by decide)) T.m_Reading_here.b .nil pass0) (pe_gi T.c_PLUS) (nomark _)))
 (pss_cons (ps_expr (pe_meth (pv 0) T.cl_Reading T.m_Reading_take.m (ok_Reading_take T) (hr.mono (by decide)) T.m_Reading_take.b .nil (passes_call (takes_of rfl rfl rfl rfl) (fun _ _ _ _ h => h)) (pa_cons (pe_ifExp (pt_val (pv 1)) (pe_gi T.c_PLUS) (pe_gi T.c_MINUS)) pa_nil)))
 (pss_cons (ps_expr (pe_meth (pv 0) T.cl_Reading T.m_Reading_take.m (ok_Reading_take T) (hr.mono (by decide)) T.m_Reading_take.b .nil (passes_call (takes_of rfl rfl rfl rfl) (fun _ _ _ _ h => h)) (pa_cons (pe_gi T.c_BLANK) pa_nil)))
 (pss_cons (ps_set (i := 2) sc_Reading_read_rule.nd rfl (Or.inl rfl) (pe_cmpR op_eq (pe_meth0 (pv 0) T.cl_Reading T.m_Reading_here.m (ok_Reading_here T) (hr.mono (by decide)) T.m_Reading_here.b .nil pass0) (pe_gi T.c_BEGINNING) (nomark _)))
 (pss_cons (ps_if (pt_val (pv 2)) (pss_cons (ps_expr (pe_meth (pv 0) T.cl_Reading T.m_Reading_take.m (ok_Reading_take T) (hr.mono (by decide)) T.m_Reading_take.b .nil (passes_call (takes_of rfl rfl rfl rfl) (fun _ _ _ _ h => h)) (pa_cons (pe_gi T.c_BEGINNING) pa_nil)))
 (pss_one (ps_expr (pe_meth (pv 0) T.cl_Reading T.m_Reading_take.m (ok_Reading_take T) (hr.mono (by decide)) T.m_Reading_take.b .nil (passes_call (takes_of rfl rfl rfl rfl) (fun _ _ _ _ h => h)) (pa_cons (pe_gi T.c_BLANK) pa_nil))))) pss_nil)
 (pss_cons (ps_set (i := 3) sc_Reading_read_rule.nd rfl (Or.inl rfl) (pe_meth0 (pv 0) T.cl_Reading T.m_Reading_items_before.m (ok_Reading_items_before T) (hr.mono (by decide)) T.m_Reading_items_before.b .nil (passes_call (takes_of rfl rfl rfl rfl) (fun _ _ _ _ h => h))))
 (pss_cons (ps_asg (pe_meth0 (pv 0) T.cl_Reading T.m_Reading_items_behind.m (ok_Reading_items_behind T) (hr.mono (by decide)) T.m_Reading_items_behind.b .nil (passes_call (takes_of rfl rfl rfl rfl) (fun _ _ _ _ h => h))) (gtK K (n := 2) rfl (pgs_cons (pg_name (i := 4) sc_Reading_read_rule.nd rfl (Or.inl rfl)) (pgs_cons (pg_name (i := 5) sc_Reading_read_rule.nd rfl (Or.inl rfl)) pgs_nil))))
 (pss_cons (ps_expr (pe_meth (pv 0) T.cl_Reading T.m_Reading_take.m (ok_Reading_take T) (hr.mono (by decide)) T.m_Reading_take.b .nil (passes_call (takes_of rfl rfl rfl rfl) (fun _ _ _ _ h => h)) (pa_cons (pe_gi T.c_LINE_END) pa_nil)))
 (pss_one (ps_ret (pe_tup (pa_cons (pv 1) (pa_cons (pv 2) (pa_cons (pv 3) (pa_cons (pv 4) (pa_cons (pv 5) pa_nil)))))))))))))))), ?_⟩)
  · obtain ⟨_, _, _, _, _, _, _, _, rfl, _⟩ := h; rfl
  · obtain ⟨x, dx, oa, dc, b, i, kvs, cs, rfl, hr0, kE, kO⟩ := h
    unfold Sm.ruleM at kE kO
    have hx := hr0.at_
    walk_at "u"
    refine r_meth T hx ?_
    walk_at "u"
    refine ⟨x, dx, oa, dc, b, i, rfl, hx, hr0.oc, fun r hr => ?_⟩
    rw [← hr] at kE kO
    walk_at "un"
    -- the sign
    refine u_seq (u_cut (fun σ' H' => σ' = [some (.ref x), some (.bl (decide (r = 43))), none, none, none, none] ∧ ¬ r ≠ (if r = 43 then 43 else 45) ∧ Keep x H H' ∧ RAt T H' x dx oa dc (i + 1)) (fun nx' hn => ?_) ?_)
    · have go : ∀ c : Int, c = (if r = 43 then 43 else 45) → sp_Reading_take T [.ref x, .int c] H (fun _ H1 => nx' [some (.ref x), some (.bl (decide (r = 43))), none, none, none, none] H1) E := by
        intro c hc
        refine ⟨x, dx, oa, dc, b, i, c, rfl, hx, hr0.oc, fun h1 H1 k1 hx1 => ?_, fun h1 => ?_⟩
        · exact hn _ _ ⟨rfl, fun z => z (by rw [← hc]; omega), k1, hx1⟩
        · rw [if_pos (show r ≠ (if r = 43 then 43 else 45) from fun z => h1 (by rw [hc]; omega))] at kE
          exact kE _ rfl
      walk_at "u"
      refine r_meth T hx ?_
      walk_at "u"
      refine ite_d (fun h1 => ?_) (fun h1 => ?_)
      · walk_at "u"
        exact go 43 (by rw [if_pos h1])
      · walk_at "u"
        exact go 45 (by rw [if_neg h1])
    rintro _ H1 ⟨rfl, hc1, k1, hx1⟩
    rw [if_neg hc1] at kE kO
    have r1 := hr0.on k1 hx1
    walk_at "u"
    refine r_meth T hx1 ?_
    walk_at "u"
    refine ⟨x, dx, oa, dc, b, i + 1, 32, rfl, hx1, r1.oc, fun h32 H2 k2 hx2 => ?_, fun h32 => ?_⟩
    · have k2' := k1.trans k2
      have r2 := hr0.on k2' hx2
      rw [if_neg (fun z => z h32)] at kE kO
      walk_at "u"
      refine r_meth T hx2 ?_
      walk_at "u"
      refine ⟨x, dx, oa, dc, b, i + 2, rfl, hx2, r2.oc, fun r4 hr4 => ?_⟩
      rw [← hr4] at kE kO
      walk_at "un"
      -- the beginning
      refine u_seq (u_cut (fun σ' H' => σ' = [some (.ref x), some (.bl (decide (r = 43))), some (.bl (decide (r4 = 94))), none, none, none] ∧ Keep x H H' ∧ ∃ j, RAt T H' x dx oa dc j ∧
        (∀ k, Sm.ruleGo (keysOf cs) b (decide (r = 43)) (decide (r4 = 94)) (Sm.beforeL (keysOf cs) b (b.length + 1) j []) = .error k → Fl T E x H k) ∧
        ∀ r' n, Sm.ruleGo (keysOf cs) b (decide (r = 43)) (decide (r4 = 94)) (Sm.beforeL (keysOf cs) b (b.length + 1) j []) = .ok (r', n) → ∀ v H', Keep x H H' → RAt T H' x dx oa dc n → Dp K H' v (encRule r') → Q v H') (fun nx' hn => ?_) ?_)
      · walk_at "u"
        refine ite_d (fun h1 => ?_) (fun h1 => ?_)
        · rw [if_pos h1] at kE kO
          walk_at "u"
          refine r_meth T hx2 ?_
          walk_at "u"
          refine ⟨x, dx, oa, dc, b, i + 2, 94, rfl, hx2, r2.oc, fun _ H3 k3 hx3 => ?_, fun z => absurd (by omega) z⟩
          have k3' := k2'.trans k3
          walk_at "u"
          refine r_meth T hx3 ?_
          walk_at "u"
          refine ⟨x, dx, oa, dc, b, i + 3, 32, rfl, hx3, k3'.l hx hr0.oc, fun h4 H4 k4 hx4 => ?_, fun h4 => ?_⟩
          · rw [if_neg (fun z => z h4)] at kE kO
            walk_at "u"
            refine hn _ _ ⟨rfl, k3'.trans k4, i + 4, hx4, ?_, ?_⟩
            · rw [decide_eq_true h1]; exact kE
            · rw [decide_eq_true h1]; exact kO
          · rw [if_pos h4] at kE
            exact Fl.on (kE _ rfl) k3'
        · rw [if_neg h1] at kE kO
          walk_at "u"
          refine hn _ _ ⟨rfl, k2', i + 2, hx2, ?_, ?_⟩
          · rw [decide_eq_false h1]; exact kE
          · rw [decide_eq_false h1]; exact kO
      rintro _ H3 ⟨rfl, k3, j, hx3, kE, kO⟩
      have r3 := hr0.on k3 hx3
      walk_at "u"
      refine r_meth T hx3 ?_
      walk_at "u"
      refine ⟨x, dx, oa, dc, b, j, kvs, cs, rfl, r3, fun k hk => ?_, fun l n hk v H4 k4 hx4 hv4 => ?_⟩
      · rw [hk] at kE
        exact Fl.on (kE k rfl) k3
      · rw [hk] at kE kO
        have k4' := k3.trans k4
        have r4 := hr0.on k4' hx4
        walk_at "u"
        refine r_meth T hx4 ?_
        walk_at "u"
        refine ⟨x, dx, oa, dc, b, n, kvs, cs, rfl, r4, fun k hk2 => ?_, fun y m hk2 p u H5 k5 hx5 hp5 hu5 => ?_⟩
        · simp only [Sm.ruleGo] at kE
          rw [hk2] at kE
          exact Fl.on (kE k rfl) k4'
        · simp only [Sm.ruleGo] at kE kO
          rw [hk2] at kE kO
          simp only [Sm.ruleEnd] at kE kO
          have k5' := k4'.trans k5
          have hv5 := (k5.kt hx4).d (tupD_Is l) hv4
          walk_at "u"
          refine u_gt (SqT.of hp5) rfl ?_
          walk_at "u"
          refine r_meth T hx5 ?_
          walk_at "u"
          refine ⟨x, dx, oa, dc, b, m, 10, rfl, hx5, k5'.l hx hr0.oc, fun h10 H6 k6 hx6 => ?_, fun h10 => ?_⟩
          · rw [if_pos h10] at kO
            have hv6 := (k6.kt hx5).d (tupD_Is l) hv5
            have hu6 := (k6.kt hx5).d (tupD_Is y.1) hu5
            walk_at "u"
            refine ⟨by show 5 ≤ sizeLine; decide, fun t ht => ?_⟩
            refine kO _ _ rfl _ _ ((k5'.trans k6).trans (Keep.new ht)) ?_ ?_
            · exact (same_new ht) _ _ hx6
            · exact .tup (SqT.of upd_same) (.cons (.bl _) (.cons (.bl _) (.cons (dp_same (same_new ht) hv6) (.cons (dp_same (same_new ht) hu6) (.cons (.bl _) .nil)))))
          · rw [if_neg h10] at kE
            exact Fl.on (kE _ rfl) k5'
    · rw [if_pos h32] at kE
      exact Fl.on (kE _ rfl) k1
def sp_Reading_whole (T : Txt K mg) : Sp := fun vs H Q E => ∃ (x dx oa dc : Addr) (b : Bytes), vs = [.ref x] ∧ RAt T H x dx oa dc 0 ∧ LI K H oa (bI b) ∧ b.length ≤ 900000 ∧ H dc = some (.dK []) ∧
  (∀ k, Sm.wholeM b = .error k → Fl2 T E x dc H k) ∧
  ∀ R, Sm.wholeM b = .ok R → ∀ p fl kvs us H', Keep2 x dc H H' → H' p = some (.tup [.ref dc, .ref fl]) → H' dc = some (.dK kvs) → CsAt K H' kvs R.classes → H' fl = some (.lst us) → DpAll K H' us (R.rules.map encRule) → Q (.ref p) H'
theorem classes15 (b : Bytes) : ∀ (F n : Nat) (cs : Sm.Clss) (y : Sm.Clss × Nat), (∀ c ∈ cs, c.1 ≤ 15) → cs.length ≤ Sm.leastC cs → Sm.leastC cs ≤ 16 → Sm.classesL b F n cs = .ok y → (∀ c ∈ y.1, c.1 ≤ 15) ∧ y.1.length ≤ 16
  | 0, _, _, _, _, _, _, h => by cases h
  | F + 1, n, cs, y, h1, h2, h3, h => by
    rw [Sm.classesL] at h
    by_cases c1 : Sm.hd b n = 37 ∧ Sm.leastC cs ≤ 15
    · rw [if_pos c1] at h
      cases q : Sm.numM [(Sm.leastC cs, 15)] (b.drop (n + 1)) with
      | error k => rw [q] at h; cases h
      | ok x =>
        have hin := Sm.num_in (v := x.1) (k := x.2) q
        rw [Sm.inSp_one] at hin
        have hin2 := Sm.within_le hin
        rw [q] at h
        dsimp only at h
        cases q2 : Sm.lineEnd b (Sm.rangesL b (b.length + 1) (n + 1 + x.2) []) with
        | error k => rw [q2] at h; cases h
        | ok z =>
          rw [q2] at h
          refine classes15 b F _ ((x.1, z.1) :: cs) y ?_ ?_ ?_ h
          · intro c hc
            rw [List.mem_cons] at hc
            rcases hc with rfl | hc
            · exact hin2.2
            · exact h1 c hc
          · show ((x.1, z.1) :: cs).length ≤ x.1 + 1
            rw [List.length_cons]; omega
          · show x.1 + 1 ≤ 16; omega
    · rw [if_neg c1] at h
      cases h
      refine ⟨fun c hc => h1 c (List.mem_reverse.mp hc), ?_⟩
      rw [List.length_reverse]; omega
theorem ok_Reading_whole (T : Txt K mg) : FnOk P w K mg base (L2.CX P w) 8 T.m_Reading_whole.a T.m_Reading_whole.fd ["self"] (sp_Reading_whole T) := by
  refine T.m_Reading_whole.F.okX sc_Reading_whole (fun vs H Q E h => ?_) (fun cdv A outer s H vs Q E hr h => ⟨_, (pss_cons (ps_expr (pe_meth0 (pv 0) T.cl_Reading T.m_Reading_read_classes.m (ok_Reading_read_classes T) (hr.mono (by decide)) T.m_Reading_read_classes.b .nil (passes_call (takes_of rfl rfl rfl rfl) (fun _ _ _ _ h => h))))
 (pss_cons (ps_set (i := 1) sc_Reading_whole.nd rfl (Or.inl rfl) (pe_lst pa_nil))
 (pss_cons (ps_while (passes_of rfl) (pt_cmpR op_lt (fldK K (pv 0) rfl) (pe_callB (cr_len K) rfl T.b_len PySem.boot_len (pa_cons (fldK K (pv 0) rfl) pa_nil)) (nomark _)) (pss_one (ps_expr (bmK K PySem.F.plainAttrs_list PySem.F.slot_list_append PySem.F.type_list_append mt_append (pv 1) (pa_cons (pe_meth0 (pv 0) T.cl_Reading T.m_Reading_read_rule.m (ok_Reading_read_rule T) (hr.mono (by decide)) T.m_Reading_read_rule.b .nil (passes_call (takes_of rfl rfl rfl rfl) (fun _ _ _ _ h => h))) pa_nil)))))
 (pss_one (ps_ret (pe_tup (pa_cons (fldK K (pv 0) rfl) (pa_cons (pv 1) pa_nil)))))))), ?_⟩)
  · obtain ⟨_, _, _, _, _, rfl, _⟩ := h; rfl
  · obtain ⟨x, dx, oa, dc, b, rfl, hx, hL, hbl, hdc, kE, kO⟩ := h
    have hdx : dc ≠ x := fun z => by rw [z, hx] at hdc; cases hdc
    unfold Sm.wholeM at kE kO
    walk_at "u"
    refine r_meth T hx ?_
    walk_at "u"
    refine ⟨x, dx, oa, dc, b, 0, rfl, hx, hL, hbl, hdc, fun k hk => ?_, fun cs n hk H1 kvs k1 hx1 hd1 hC1 => ?_⟩
    · rw [hk] at kE
      exact kE k rfl
    · rw [hk] at kE kO
      dsimp only at kE kO
      have h15 := classes15 b _ _ [] _ (fun c hc => nomatch hc) (Nat.le_refl _) (Nat.zero_le _) hk
      have r1 : RSt T H1 x dx oa dc b n kvs cs := ⟨hx1, k1.l hx hdc hL, hbl, hd1, hC1, h15.1, h15.2⟩
      walk_at "u"
      refine ⟨by show 0 ≤ sizeLine; decide, fun fl hfl => ?_⟩
      have hflx : fl ≠ x := fun z => by rw [z, hx1] at hfl; cases hfl
      generalize hR0 : Sm.rulesL (cs.map fun c => c.1) b (b.length + 1) n [] = R at kE kO
      walk_at "u"
      refine f_while (fun m σ H' => ∃ (j : Nat) (l : List Fh.Rule) (us : List V), σ = [some (.ref x), some (.ref fl)] ∧ Keep x H1 H' ∧ RAt T H' x dx oa dc j ∧ H' fl = some (.lst us) ∧ DpAll K H' us (l.reverse.map encRule) ∧
        R = Sm.rulesL (keysOf cs) b m j l ∧ b.length - j < m ∧ l.length ≤ j ∧ (l ≠ [] → l.length ≤ b.length)) (m := b.length + 1)
        ⟨n, [], [], rfl, Keep.new hfl, (upd_ne hflx.symm).trans hx1, upd_same, .nil, hR0.symm, by omega, Nat.zero_le _, fun z => absurd rfl z⟩ ?_
      rintro m σ H2 ⟨j, l, us, rfl, k2, hx2, hf2, hD2, hR, hm, hlj, hlb⟩
      obtain ⟨m, rfl⟩ : ∃ j, m = j + 1 := ⟨m - 1, by omega⟩
      rw [Sm.rulesL] at hR
      have r2 := r1.on k2 hx2
      have hulen : us.length = l.length := by rw [dps_len hD2, List.length_map, List.length_reverse]
      walk_at "u"
      refine r_at T hx2 ?_
      walk_at "u"
      refine r_octets T hx2 ?_
      walk_at "u"
      refine u_lenL r2.oc ?_
      walk_at "u"
      rw [map_int_len, bI_len]
      refine ite_d (fun h1 => ?_) (fun h1 => ?_)
      · rw [if_pos (by omega)] at hR
        refine u_body ?_
        walk_at "u"
        refine ⟨u_lty hf2, ?_⟩
        walk_at "u"
        refine r_meth T hx2 ?_
        walk_at "u"
        refine ⟨x, dx, oa, dc, b, j, kvs, cs, rfl, r2, fun k hk2 => ?_, fun r' n' hk2 v H3 k3 hx3 hv3 => ?_⟩
        · rw [hk2] at hR
          rw [hR] at kE
          exact Fl2.on (kE k rfl) (k1.trans (Keep2.of k2))
        · have hgt := Sm.ruleM_gt hk2
          rw [hk2] at hR
          dsimp only at hR hgt
          have hf3 := k3 _ _ hf2 hflx
          have hle : l.length ≤ b.length := by
            by_cases hl0 : l = []
            · subst hl0; exact Nat.zero_le _
            · exact hlb hl0
          walk_at "u"
          refine u_append hf3 (size_less (by omega)) ?_
          have hx4 : RAt T (upd H3 fl (.lst (us ++ [v]))) x dx oa dc n' := (upd_ne hflx.symm).trans hx3
          have kt4 : Kt H3 (upd H3 fl (.lst (us ++ [v]))) := Kt.upd hf3 rfl
          walk_at "u"
          refine ⟨m, by omega, n', r' :: l, us ++ [v], rfl, Keep.mut (k2.trans k3) hfl, hx4, upd_same, ?_, hR, by omega, by rw [List.length_cons]; omega, fun _ => by rw [List.length_cons]; omega⟩
          rw [List.reverse_cons, List.map_append]
          exact dps_app (kt4.ds (tupDs_map tupD_Rule _) (k3.ds hx2 hD2)) (dps_one (kt4.d (tupD_Rule r') hv3))
      · rw [if_neg (by omega)] at hR
        rw [hR] at kO
        walk_at "u"
        refine r_classes T hx2 ?_
        walk_at "u"
        refine ⟨by show 2 ≤ sizeLine; decide, fun p hp => ?_⟩
        have s3 := same_new (o := .tup [.ref dc, .ref fl]) hp
        exact kO _ rfl p fl kvs us _ ((k1.trans (Keep2.of k2)).trans (Keep2.of (Keep.same s3))) upd_same (s3 _ _ (r2.hd)) (r2.cl.kt (Kt.same s3)) (s3 _ _ hf2) (dps_same s3 hD2)
end
end Sr
namespace Sr
open PySem PySem.Spec PyProof.Rows L2
open Fh (Bytes)
theorem dp_tup {K : PySem.W.Frag} {H : Hp} {v : V} {ds : List PyData} (h : Dp K H v (.tuple ds)) : ∃ p us, v = .ref p ∧ SqT K H p us ∧ DpAll K H us ds := by
  cases h with
  | tup hs hd => exact ⟨_, _, rfl, hs, hd⟩
theorem dps_c {K : PySem.W.Frag} {H : Hp} {vs : List V} {d : PyData} {ds : List PyData} (h : DpAll K H vs (d :: ds)) : ∃ v us, vs = v :: us ∧ Dp K H v d ∧ DpAll K H us ds := by
  cases h with
  | cons h1 h2 => exact ⟨_, _, rfl, h1, h2⟩
theorem dps_n {K : PySem.W.Frag} {H : Hp} {vs : List V} (h : DpAll K H vs []) : vs = [] := by cases h; rfl
theorem dp_i {K : PySem.W.Frag} {H : Hp} {v : V} {n : Int} (h : Dp K H v (.int n)) : v = .int n := by cases h; rfl
theorem dp_b {K : PySem.W.Frag} {H : Hp} {v : V} {k : Bool} (h : Dp K H v (.bool k)) : v = .bl k := by cases h; rfl
theorem dp_itm {K : PySem.W.Frag} {H : Hp} {v : V} {i : Fh.Item} (h : Dp K H v (encI i)) : ∃ p va, v = .ref p ∧ SqT K H p [va, .int i.least, .int i.most] ∧ Dp K H va (encA i.atom) := by
  obtain ⟨p, us, rfl, hs, hd⟩ := dp_tup h
  obtain ⟨v1, us, rfl, h1, hd⟩ := dps_c hd
  obtain ⟨v2, us, rfl, h2, hd⟩ := dps_c hd
  obtain ⟨v3, us, rfl, h3, hd⟩ := dps_c hd
  obtain rfl := dps_n hd
  obtain rfl := dp_i h2
  obtain rfl := dp_i h3
  exact ⟨p, v1, rfl, hs, h1⟩
theorem dp_rule {K : PySem.W.Frag} {H : Hp} {v : V} {r : Fh.Rule} (h : Dp K H v (encRule r)) : ∃ p vb vh, v = .ref p ∧ SqT K H p [.bl r.cut, .bl r.start, vb, vh, .bl r.halt_] ∧ Dp K H vb (encIs r.before) ∧ Dp K H vh (encIs r.behind) := by
  obtain ⟨p, us, rfl, hs, hd⟩ := dp_tup h
  obtain ⟨v1, us, rfl, h1, hd⟩ := dps_c hd
  obtain ⟨v2, us, rfl, h2, hd⟩ := dps_c hd
  obtain ⟨v3, us, rfl, h3, hd⟩ := dps_c hd
  obtain ⟨v4, us, rfl, h4, hd⟩ := dps_c hd
  obtain ⟨v5, us, rfl, h5, hd⟩ := dps_c hd
  obtain rfl := dps_n hd
  obtain rfl := dp_b h1
  obtain rfl := dp_b h2
  obtain rfl := dp_b h5
  exact ⟨p, v3, v4, rfl, hs, h3, h4⟩
/-- an atom's tuple: its kind, what stands there -/
theorem dp_atom {K : PySem.W.Frag} {H : Hp} {v : V} {a : Fh.Atom} (h : Dp K H v (encA a)) : ∃ p u, v = .ref p ∧
    ((a = .any ∧ SqT K H p [.int 0, u]) ∨ (∃ k : Nat, a = .cls k ∧ u = .int k ∧ SqT K H p [.int 1, u]) ∨ ∃ t, a = .lit t ∧ SqT K H p [.int 2, u] ∧ Dp K H u (encT t)) := by
  cases a with
  | any =>
    obtain ⟨p, us, rfl, hs, hd⟩ := dp_tup h
    obtain ⟨v1, us, rfl, h1, hd⟩ := dps_c hd
    obtain ⟨v2, us, rfl, h2, hd⟩ := dps_c hd
    obtain rfl := dps_n hd
    obtain rfl := dp_i h1
    exact ⟨p, v2, rfl, Or.inl ⟨rfl, hs⟩⟩
  | cls k =>
    obtain ⟨p, us, rfl, hs, hd⟩ := dp_tup h
    obtain ⟨v1, us, rfl, h1, hd⟩ := dps_c hd
    obtain ⟨v2, us, rfl, h2, hd⟩ := dps_c hd
    obtain rfl := dps_n hd
    obtain rfl := dp_i h1
    obtain rfl := dp_i h2
    exact ⟨p, _, rfl, Or.inr (Or.inl ⟨k, rfl, rfl, hs⟩)⟩
  | lit t =>
    obtain ⟨p, us, rfl, hs, hd⟩ := dp_tup h
    obtain ⟨v1, us, rfl, h1, hd⟩ := dps_c hd
    obtain ⟨v2, us, rfl, h2, hd⟩ := dps_c hd
    obtain rfl := dps_n hd
    obtain rfl := dp_i h1
    exact ⟨p, v2, rfl, Or.inr (Or.inr ⟨t, rfl, hs, h2⟩)⟩
/-- rules that were read, at v -/
def RuAt (K : PySem.W.Frag) (H : Hp) (v : V) (R : Fh.Rules) : Prop := ∃ (p dc : Addr) (kvs : List (Key × V)) (fl : Addr) (us : List V), v = .ref p ∧ SqT K H p [.ref dc, .ref fl] ∧ H dc = some (.dK kvs) ∧ CsAt K H kvs R.classes ∧ SqL K H fl us ∧ DpAll K H us (R.rules.map encRule) ∧ (R.classes.map fun c => c.1).Nodup
section
variable {P : Program} {w : World} {K : PySem.W.Frag} {mg : Str → Option Value} {base : Heap}
def sp_read_rules (K : PySem.W.Frag) : Sp := fun vs H Q _ => ∃ (oa : Addr) (b : Bytes), vs = [.ref oa] ∧ LI K H oa (bI b) ∧ b.length ≤ 900000 ∧
  (∀ k, Sm.wholeM b = .error k → ∀ p H', Same H H' → SqT K H' p [.non, .int (k : Int)] → Q (.ref p) H') ∧
  ∀ R, Sm.wholeM b = .ok R → ∀ p v H', Same H H' → SqT K H' p [v, .int (-1)] → RuAt K H' v R → Q (.ref p) H'
theorem ok_read_rules (T : Txt K mg) : FnOk P w K mg base CX0 9 T.f_read_rules.a T.f_read_rules.fd ["octets"] (sp_read_rules K) := by
  refine T.f_read_rules.F.ok sc_read_rules (fun vs H Q E h => ?_) (fun cdv A outer s H vs Q E hr h => ⟨_, (pss_one (ps_try_as (i := 1) (tb := (fun W => tRet (tTup (tCons (tMethS T.C "whole" (sp_Reading_whole T) (WE W) (tMake T.C (sp_Reading___init__ T) [] E0 (tCons (tVar 0) tNil)) tNil) (tCons (tUn (rU fun i => .int (-i)) (tC (.int 1))) tNil))))) (ts := (fun a cls d => tRet (tTup (tCons (tC .non) (tCons (tXf a cls d T.CF "place" (tVar 1)) tNil))))) (Wout := fun _ _ _ _ => False) rfl rfl sc_read_rules.nd rfl rfl ⟨rfl, by decide, Or.inl T.g_Fault⟩ takes0
 (fun W pn xe tk _ => (by exact (pss_one (ps_ret (pe_tup (pa_cons (pe_meth0S (pe_make T.mk_Reading (ok_Reading___init__ T) (hr.mono (by decide)) rfl T.g_Reading T.m_Reading___init__.b .nil pass0 (pa_cons (pv 0) pa_nil)) T.cl_Reading T.m_Reading_whole.m (ok_Reading_whole T) (hr.mono (by decide)) T.m_Reading_whole.b (fun σ => passAt tk σ)) (pa_cons (pe_un un_neg pe_int) pa_nil)))))))
 (fun a oe cls d pn hz hf => (by exact (pss_one (ps_ret (pe_tup (pa_cons pe_non (pa_cons (pe_xf T.xf T.xp hz hf (pv 1)) pa_nil))))))))), ?_⟩)
  · obtain ⟨_, _, rfl, _⟩ := h; rfl
  · obtain ⟨oa, b, rfl, hL, hbl, kE, kO⟩ := h
    dsimp only
    walk_at "u"
    intro x dx hx hdx hne
    have hne2 : x ≠ dx := fun z => hne z.symm
    have s1 : Same H (upd (upd H dx (.own x)) x (.ins T.C dx [])) := (same_new hdx).trans (same_new ((upd_ne hne2).trans hx))
    refine ⟨x, dx, oa, rfl, upd_same, fun dc H2 k2 hdc hdcx hx2 hd2 => ⟨rfl, ?_⟩⟩
    have hx1 : upd (upd H dx (.own x)) x (.ins T.C dx []) x = some (.ins T.C dx []) := upd_same
    generalize upd (upd H dx (.own x)) x (.ins T.C dx []) = H1 at s1 k2 hdc hx1
    have hdc0 : H dc = none := by
      cases e : H dc with
      | none => rfl
      | some o => have := s1 _ _ e; rw [hdc] at this; cases this
    have k3 : Same H H2 := fun p o hp => k2 p o (s1 p o hp) (ne_of_none hp hx)
    have k4 : ∀ {H'}, Keep2 x dc H2 H' → Same H H' := fun k p o hp => k p o (k3 p o hp) (ne_of_none hp hx) (ne_of_none hp hdc0)
    refine ⟨x, dx, rF oa 0 dc, rfl, hx2, rF_no (by decide +kernel) (by decide +kernel) (by decide +kernel), ?_⟩
    walk_at "u"
    refine ⟨x, dx, oa, dc, b, rfl, hx2, same_l k3 hL, hbl, hd2, fun k hk d H' kk hd => ?_, fun R hk p fl kvs us H' kk hp hdc' hC hfl hD => ?_⟩
    · refine ⟨true, T.exm, fun _ a ha => ?_, fun h => nomatch h⟩
      walk_at "u"
      refine ⟨rfl, rfl, d, _, _, rfl, hd, lk_here, ?_⟩
      walk_at "u"
      refine ⟨by show 2 ≤ sizeLine; decide, fun p hp => ?_⟩
      exact kE k hk p _ (same_then (k4 kk) hp) (SqT.of upd_same)
    · walk_at "u"
      refine ⟨by show 2 ≤ sizeLine; decide, fun q hq => ?_⟩
      have s5 := same_new (o := .tup [.ref p, .int (-1)]) hq
      exact kO R hk q (.ref p) _ (same_then (k4 kk) hq) (SqT.of upd_same) ⟨p, dc, kvs, fl, us, rfl, SqT.of (s5 _ _ hp), s5 _ _ hdc', hC.kt (Kt.same s5), Or.inl (Or.inl (s5 _ _ hfl)), dps_same s5 hD, Sm.wholeND hk⟩
def sp_are_items_beyond (K : PySem.W.Frag) : Sp := fun vs H Q _ => ∃ (a : Addr) (us : List V) (l : List Fh.Item), vs = [.ref a] ∧ SqT K H a us ∧ DpAll K H us (l.map encI) ∧ ∀ r, r = Sm.beyondI l → Q (.bl r) H
theorem ok_are_items_beyond (T : Txt K mg) : FnOk P w K mg base CX0 1 T.f_are_items_beyond.a T.f_are_items_beyond.fd ["items"] (sp_are_items_beyond K) := by
  refine T.f_are_items_beyond.F.ok sc_are_items_beyond (fun vs H Q E h => ?_) (fun cdv A outer s H vs Q E hr h => ⟨_, (pss_cons (ps_if (pt_cmpR op_gt (pe_callB (cr_len K) rfl T.b_len PySem.boot_len (pa_cons (pv 0) pa_nil)) pe_int (nomark _)) (pss_one (ps_ret pe_bl)) pss_nil)
 (pss_cons (ps_for PassesOwn.never rfl (piTK K (pv 0)) (gtK K (n := 3) rfl (pgs_cons (pg_name (i := 1) sc_are_items_beyond.nd rfl (Or.inl rfl)) (pgs_cons (pg_name (i := 2) sc_are_items_beyond.nd rfl (Or.inl rfl)) (pgs_cons (pg_name (i := 3) sc_are_items_beyond.nd rfl (Or.inl rfl)) pgs_nil)))) (pss_one (ps_if (PW.pt (pw_and (pt_cmpR op_eq (pe_ix (ixTK K) (pv 1) pe_int (fun _ _ => rfl)) (pe_gi T.c_CERTAIN) (nomark _)) (pw_and1 (pt_cmpR op_gt (pe_callB (cr_len K) rfl T.b_len PySem.boot_len (pa_cons (pe_ix (ixTK K) (pv 1) pe_int (fun _ _ => rfl)) pa_nil)) pe_int (nomark _))))) (pss_one (ps_ret pe_bl)) pss_nil)))
 (pss_one (ps_ret pe_bl)))), ?_⟩)
  · obtain ⟨_, _, _, rfl, _⟩ := h; rfl
  · obtain ⟨a, us, l, rfl, hT, hD, k⟩ := h
    have hlen : us.length = l.length := by rw [dps_len hD, List.length_map]
    unfold Sm.beyondI at k
    walk_at "u"
    refine u_lenT hT ?_
    walk_at "u"
    refine ite_d (fun h1 => ?_) (fun h1 => ?_)
    · walk_at "u"
      exact k _ (by rw [decide_eq_true (by omega)]; rfl)
    · rw [decide_eq_false (by omega)] at k
      walk_at "u"
      refine f_tup (K := K) (a := a) (xs := us) (fun i σ H' => ∃ v1 v2 v3, σ = [some (.ref a), v1, v2, v3] ∧ H' = H ∧ (l.any fun i => Sm.longA i.atom) = ((l.drop i).any fun i => Sm.longA i.atom)) hT ⟨none, none, none, rfl, rfl, rfl⟩ (fun i σ H' _ ⟨_, _, _, _, e, _⟩ => by rw [e]; exact hT) ?_ ?_
      · rintro i x σ H' hx ⟨v1, v2, v3, rfl, rfl, hb⟩
        have hi : i < l.length := by rw [← hlen]; exact (List.getElem?_eq_some_iff.mp hx).1
        obtain ⟨v, hv, hd⟩ := dps_get hD (i := i) (d := encI l[i]) (by rw [List.getElem?_map, List.getElem?_eq_getElem hi]; rfl)
        rw [hx] at hv
        cases hv
        rw [List.drop_eq_getElem_cons hi, List.any_cons] at hb
        generalize l[i] = it at hd hb
        obtain ⟨p, va, rfl, hp, ha⟩ := dp_itm hd
        obtain ⟨q, u, rfl, hq⟩ := dp_atom ha
        refine u_gt hp rfl ?_
        walk_at "u"
        have go : Sm.longA it.atom = false → (∃ v1 v2 v3, [some (V.ref a), some (V.ref q), some (.int it.least), some (.int it.most)] = [some (V.ref a), v1, v2, v3] ∧ H' = H' ∧ (l.any fun i => Sm.longA i.atom) = ((l.drop (i + 1)).any fun i => Sm.longA i.atom)) := fun z => ⟨_, _, _, rfl, rfl, by rw [hb, z, Bool.false_or]⟩
        rcases hq with ⟨e, hq⟩ | ⟨n, e, rfl, hq⟩ | ⟨t, e, hq, ht⟩
        · refine u_ixT hq rfl ?_
          walk_at "u"
          exact go (by rw [e]; rfl)
        · refine u_ixT hq rfl ?_
          walk_at "u"
          exact go (by rw [e]; rfl)
        · obtain ⟨tp, ts, rfl, hts, htd⟩ := dp_tup ht
          have htl : ts.length = t.length := by rw [dps_len htd, List.length_map]; exact List.length_map ..
          refine u_ixT hq rfl ?_
          walk_at "u"
          refine ite_d (fun _ => ?_) (fun h => absurd rfl h)
          walk_at "u"
          refine u_ixT hq rfl ?_
          walk_at "u"
          refine u_lenT hts ?_
          walk_at "u"
          have e2 : Sm.longA it.atom = decide (32 < t.length) := by rw [e]; rfl
          refine ite_d (fun h2 => ?_) (fun h2 => ?_)
          · walk_at "u"
            exact k _ (by rw [hb, e2, decide_eq_true (by omega)]; rfl)
          · walk_at "u"
            exact go (by rw [e2, decide_eq_false (by omega)])
      · rintro σ H' ⟨v1, v2, v3, rfl, rfl, hb⟩
        walk_at "u"
        exact k _ (by rw [hb, hlen, List.drop_length]; rfl)
def sp_is_beyond (K : PySem.W.Frag) : Sp := fun vs H Q _ => ∃ (v : V) (R : Fh.Rules), vs = [v] ∧ RuAt K H v R ∧ ∀ r, r = Sm.beyondM R → ∀ H', Same H H' → Q (.bl r) H'
theorem ok_is_beyond (T : Txt K mg) : FnOk P w K mg base CX0 2 T.f_is_beyond.a T.f_is_beyond.fd ["ruling"] (sp_is_beyond K) := by
  refine T.f_is_beyond.F.ok sc_is_beyond (fun vs H Q E h => ?_) (fun cdv A outer s H vs Q E hr h => ⟨_, (pss_cons (ps_asg (pv 0) (gtK K (n := 2) rfl (pgs_cons (pg_name (i := 1) sc_is_beyond.nd rfl (Or.inl rfl)) (pgs_cons (pg_name (i := 2) sc_is_beyond.nd rfl (Or.inl rfl)) pgs_nil))))
 (pss_cons (ps_if (pt_cmpR op_gt (pe_callB (cr_len K) rfl T.b_len PySem.boot_len (pa_cons (pv 2) pa_nil)) pe_int (nomark _)) (pss_one (ps_ret pe_bl)) pss_nil)
 (pss_cons (ps_for PassesOwn.never rfl (piLK K (pe_callTy (call_list_dK rfl) rfl T.b_list (by decide +kernel) (pa_cons (pv 1) pa_nil))) (pg_name (i := 3) sc_is_beyond.nd rfl (Or.inl rfl)) (pss_one (ps_if (pt_cmpR op_gt (pe_callB (cr_len K) rfl T.b_len PySem.boot_len (pa_cons (pe_dget (hu_of hr) (pv 1) (pv 3) (fun _ _ => rfl)) pa_nil)) pe_int (nomark _)) (pss_one (ps_ret pe_bl)) pss_nil)))
 (pss_cons (ps_for PassesOwn.never rfl (piLK K (pv 2)) (gtK K (n := 5) rfl (pgs_cons (pg_name (i := 4) sc_is_beyond.nd rfl (Or.inl rfl)) (pgs_cons (pg_name (i := 5) sc_is_beyond.nd rfl (Or.inl rfl)) (pgs_cons (pg_name (i := 6) sc_is_beyond.nd rfl (Or.inl rfl)) (pgs_cons (pg_name (i := 7) sc_is_beyond.nd rfl (Or.inl rfl)) (pgs_cons (pg_name (i := 8) sc_is_beyond.nd rfl (Or.inl rfl)) pgs_nil)))))) (pss_one (ps_if (PW.pt (pw_or (pt_val (pe_call (ok_are_items_beyond T) (hr.mono (by decide)) rfl T.f_are_items_beyond.g T.f_are_items_beyond.F.kp T.f_are_items_beyond.b .nil pass0 (pa_cons (pv 6) pa_nil))) (pw_or1 (pt_val (pe_call (ok_are_items_beyond T) (hr.mono (by decide)) rfl T.f_are_items_beyond.g T.f_are_items_beyond.F.kp T.f_are_items_beyond.b .nil pass0 (pa_cons (pv 7) pa_nil)))))) (pss_one (ps_ret pe_bl)) pss_nil)))
 (pss_one (ps_ret pe_bl)))))), ?_⟩)
  · obtain ⟨_, _, rfl, _⟩ := h; rfl
  · obtain ⟨_, R, rfl, ⟨p, dc, kvs, fl, us, rfl, hp, hdc, hC, hfl, hD, hnd⟩, k⟩ := h
    have hlen : us.length = R.rules.length := by rw [dps_len hD, List.length_map]
    unfold Sm.beyondM at k
    walk_at "u"
    refine u_gt hp rfl ?_
    walk_at "u"
    refine u_lenL hfl ?_
    walk_at "u"
    refine ite_d (fun h1 => ?_) (fun h1 => ?_)
    · walk_at "u"
      exact k _ (by rw [decide_eq_true (by omega)]; rfl) _ (Same.refl _)
    · rw [decide_eq_false (by omega)] at k
      walk_at "u"
      refine u_listD hdc fun q hq => ?_
      rw [hC.keys]
      have hqL : SqL K (upd H q (.lst (R.classes.map fun c => V.int (c.1 : Nat)))) q (R.classes.map fun c => V.int (c.1 : Nat)) := Or.inl (Or.inl upd_same)
      have s1 := same_new (o := .lst (R.classes.map fun c => V.int (c.1 : Nat))) hq
      generalize upd H q (.lst (R.classes.map fun c => V.int (c.1 : Nat))) = H1 at hqL s1
      walk_at "u"
      refine f_list (K := K) (a := q) (xs := R.classes.map fun c => V.int (c.1 : Nat)) (fun i σ H' => ∃ v1, σ = [some (.ref p), some (.ref dc), some (.ref fl), v1, none, none, none, none, none] ∧ H' = H1 ∧ (R.classes.any fun x => decide (256 < x.2.length)) = ((R.classes.drop i).any fun x => decide (256 < x.2.length))) hqL ⟨none, rfl, rfl, rfl⟩ (fun i σ H' _ ⟨_, _, e, _⟩ => by rw [e]; exact hqL) ?_ ?_
      · rintro i x σ H' hx ⟨v1, rfl, rfl, hb⟩
        have hi : i < R.classes.length := by have := (List.getElem?_eq_some_iff.mp hx).1; rw [List.length_map] at this; exact this
        rw [List.getElem?_map, List.getElem?_eq_getElem hi] at hx
        cases hx
        have hm : R.classes[i] ∈ R.classes := List.getElem_mem hi
        rw [List.drop_eq_getElem_cons hi, List.any_cons] at hb
        generalize R.classes[i] = c at hb hm
        obtain ⟨v, hv, hd⟩ := hC.get (Sm.lookup_nd hnd (show (c.1, c.2) ∈ R.classes from hm))
        obtain ⟨tp, ts, rfl, hts, htd⟩ := dp_tup hd
        have htl : ts.length = c.2.length := by rw [dps_len htd, List.length_map]
        walk_at "u"
        refine u_getI (s1 _ _ hdc) hv ?_
        walk_at "u"
        refine u_lenT (same_t s1 hts) ?_
        walk_at "u"
        refine ite_d (fun h2 => ?_) (fun h2 => ?_)
        · walk_at "u"
          exact k _ (by rw [hb, decide_eq_true (by omega)]; rfl) _ s1
        · walk_at "u"
          exact ⟨_, rfl, rfl, by rw [hb, decide_eq_false (by omega)]; rfl⟩
      · rintro σ H1 ⟨v1, rfl, rfl, hb⟩
        rw [List.length_map, List.drop_length] at hb
        rw [hb] at k
        have hf1 := same_l s1 hfl
        have hD1 := dps_same s1 hD
        walk_at "u"
        refine f_list (K := K) (a := fl) (xs := us) (fun i σ H' => ∃ v1 v2 v3 v4 v5 v6, σ = [some (.ref p), some (.ref dc), some (.ref fl), v1, v2, v3, v4, v5, v6] ∧ Same H1 H' ∧ (R.rules.any fun r => Sm.beyondI r.before || Sm.beyondI r.behind) = ((R.rules.drop i).any fun r => Sm.beyondI r.before || Sm.beyondI r.behind)) hf1 ⟨_, _, _, _, _, _, rfl, Same.refl _, rfl⟩ (fun i σ H' _ ⟨_, _, _, _, _, _, _, e, _⟩ => same_l e hf1) ?_ ?_
        · rintro i x σ H' hx ⟨v1, v2, v3, v4, v5, v6, rfl, s2, hb⟩
          have hi : i < R.rules.length := by rw [← hlen]; exact (List.getElem?_eq_some_iff.mp hx).1
          obtain ⟨v, hv, hd⟩ := dps_get hD1 (i := i) (d := encRule R.rules[i]) (by rw [List.getElem?_map, List.getElem?_eq_getElem hi]; rfl)
          rw [hx] at hv
          cases hv
          rw [List.drop_eq_getElem_cons hi, List.any_cons] at hb
          generalize R.rules[i] = r at hd hb
          obtain ⟨rp, vb, vh, rfl, hrp, hvb, hvh⟩ := dp_rule hd
          obtain ⟨ba, bs, rfl, hbs, hbd⟩ := dp_tup hvb
          obtain ⟨ha, hs, rfl, hhs, hhd⟩ := dp_tup hvh
          refine u_gt (same_t s2 hrp) rfl ?_
          walk_at "u"
          refine ⟨ba, bs, r.before, rfl, same_t s2 hbs, dps_same s2 hbd, fun r1 hr1 => ?_⟩
          walk_at "u"
          refine ite_b (fun h2 => ?_) (fun h2 => ?_)
          · walk_at "u"
            exact k _ (by rw [hb, ← hr1, h2]; rfl) _ (s1.trans s2)
          · walk_at "u"
            refine ⟨ha, hs, r.behind, rfl, same_t s2 hhs, dps_same s2 hhd, fun r2 hr2 => ?_⟩
            walk_at "u"
            refine ite_b (fun h3 => ?_) (fun h3 => ?_)
            · walk_at "u"
              exact k _ (by rw [hb, ← hr1, ← hr2, h2, h3]; rfl) _ (s1.trans s2)
            · walk_at "u"
              exact ⟨_, _, _, _, _, _, rfl, s2, by rw [hb, ← hr1, ← hr2, h2, h3]; rfl⟩
        · rintro σ H' ⟨v1, v2, v3, v4, v5, v6, rfl, s2, hb⟩
          rw [hlen, List.drop_length] at hb
          walk_at "u"
          exact k _ (by rw [hb]; rfl) _ (s1.trans s2)
def sp_rules (K : PySem.W.Frag) : Sp := fun vs H Q _ => ∃ (a : Addr) (b : Bytes), vs = [.ref a] ∧ LI K H a (bI b) ∧ b.length ≤ 900000 ∧ ∀ p H', Same H H' → H' p = some (.lst ((Sm.rulesAns b).map V.int)) → Q (.ref p) H'
theorem ok_rules (T : Txt K mg) : FnOk P w K mg base CX0 10 T.f_rules.a T.f_rules.fd ["t"] (sp_rules K) := by
  refine T.f_rules.F.ok sc_rules (fun vs H Q E h => ?_) (fun cdv A outer s H vs Q E hr h => ⟨_, (pss_cons (ps_if (pt_cmpR op_gt (pe_callB (cr_len K) rfl T.b_len PySem.boot_len (pa_cons (pv 0) pa_nil)) (pe_gi T.c_MOST_RULES_TEXT) (nomark _)) (pss_one (ps_ret (pe_lst (pa_cons (pe_gi T.c_TOO_GREAT) pa_nil)))) pss_nil)
 (pss_cons (ps_asg (pe_call (ok_read_rules T) (hr.mono (by decide)) rfl T.f_read_rules.g T.f_read_rules.F.kp T.f_read_rules.b .nil pass0 (pa_cons (pv 0) pa_nil)) (gtK K (n := 2) rfl (pgs_cons (pg_name (i := 1) sc_rules.nd rfl (Or.inl rfl)) (pgs_cons (pg_name (i := 2) sc_rules.nd rfl (Or.inl rfl)) pgs_nil))))
 (pss_cons (ps_if (pt_cmpR op_ge (pv 2) pe_int (nomark _)) (pss_one (ps_ret (pe_lst (pa_cons (pe_gi T.c_WRONG) (pa_cons (pv 2) pa_nil))))) pss_nil)
 (pss_one (ps_ret (pe_ifExp (pt_val (pe_call (ok_is_beyond T) (hr.mono (by decide)) rfl T.f_is_beyond.g T.f_is_beyond.F.kp T.f_is_beyond.b .nil pass0 (pa_cons (pv 1) pa_nil))) (pe_lst (pa_cons (pe_gi T.c_TOO_GREAT) pa_nil)) (pe_lst (pa_cons (pe_callB (cr_len K) rfl T.b_len PySem.boot_len (pa_cons (pe_ix (ixTK K) (pv 1) pe_int (fun _ _ => rfl)) pa_nil)) pa_nil)))))))), ?_⟩)
  · obtain ⟨_, _, rfl, _⟩ := h; rfl
  · obtain ⟨a, b, rfl, hL, hbl, k⟩ := h
    unfold Sm.rulesAns at k
    walk_at "u"
    refine u_lenL hL ?_
    walk_at "u"
    rw [map_int_len, bI_len]
    refine ite_d (fun h1 => ?_) (fun h1 => ?_)
    · rw [if_pos (by omega)] at k
      walk_at "u"
      refine ⟨by show 1 ≤ sizeLine; decide, fun p hp => ?_⟩
      exact k p _ (same_new hp) upd_same
    · rw [if_neg (by omega)] at k
      walk_at "u"
      refine ⟨a, b, rfl, hL, hbl, fun j hj p H1 s1 hp => ?_, fun R hR p v H1 s1 hp hRu => ?_⟩
      · rw [hj] at k
        refine u_gt hp rfl ?_
        walk_at "u"
        refine ite_d (fun _ => ?_) (fun h => absurd (by omega) h)
        walk_at "u"
        refine ⟨by show 2 ≤ sizeLine; decide, fun q hq => ?_⟩
        exact k q _ (s1.trans (same_new hq)) upd_same
      · rw [hR] at k
        dsimp only at k
        refine u_gt hp rfl ?_
        walk_at "u"
        refine ite_d (fun h => absurd h (by decide)) (fun _ => ?_)
        walk_at "u"
        refine ⟨v, R, rfl, hRu, fun r hr H2 s2 => ?_⟩
        rw [← hr] at k
        walk_at "u"
        refine ite_b (fun h2 => ?_) (fun h2 => ?_)
        · rw [if_pos h2] at k
          walk_at "u"
          refine ⟨by show 1 ≤ sizeLine; decide, fun q hq => ?_⟩
          exact k q _ ((s1.trans s2).trans (same_new hq)) upd_same
        · rw [if_neg (by rw [h2]; decide)] at k
          obtain ⟨rp, dc, kvs, fl, us, rfl, hrp, hdc, hC, hfl, hD, hnd⟩ := hRu
          walk_at "u"
          refine u_ixT (same_t s2 hrp) rfl ?_
          walk_at "u"
          refine u_lenL (same_l s2 hfl) ?_
          walk_at "u"
          refine ⟨by show 1 ≤ sizeLine; decide, fun q hq => ?_⟩
          rw [dps_len hD, List.length_map]
          exact k q _ ((s1.trans s2).trans (same_new hq)) upd_same
end
end Sr
namespace Sr
open PySem PySem.Spec PyProof.Rows L2
def Fn.of {K : PySem.W.Frag} {mg : Str → Option Value} {h : Heap} {x : Str} {st : Stmt} {ps : List Str} {a : Addr} {oc : Value} {od an : Option Addr} {osl : Array (Option Value)} {kV doc pm cdv ct : Value} (X : K.In h) (G : h.Ns mainGlobals mg)
    (e : PySem.W.nsIn K mainGlobals x = some (some (.ref a))) (l : K.lookup a = some ⟨oc, od, .func (PySem.W.fnOf x x (defArgs st) (defBody st) (defScope st) .none kV doc pm an cdv ct), osl⟩) (c : PySem.W.codeIn K cdv x = true) (k : PySem.W.keepIn K (.ref a) = true)
    (hb : ∀ (kV doc pm : Value) (an : Option Addr) (cdv ct : Value) (us : List Value), us.length = ps.length → bindArgs (PySem.W.fnOf x x (defArgs st) (defBody st) (defScope st) .none kV doc pm an cdv ct) ⟨us, []⟩ = pure (ps.zip us)) : Fn K mg x st ps :=
  ⟨a, _, fun_mk l c k, (fun_mk l c k).binds hb, PySem.W.mg_of X G e⟩
def Mt.of {K : PySem.W.Frag} {C : Addr} {x q : Str} {st : Stmt} {ps : List Str} {a : Addr} {oc : Value} {od an : Option Addr} {osl : Array (Option Value)} {kV doc pm cdv ct : Value}
    (e : PySem.W.findIn K (.ref C) x = some (some (.ref a))) (i : PySem.W.isFn K (.ref a) = true) (l : K.lookup a = some ⟨oc, od, .func (PySem.W.fnOf x q (defArgs st) (defBody st) (defScope st) .none kV doc pm an cdv ct), osl⟩) (c : PySem.W.codeIn K cdv q = true) (k : PySem.W.keepIn K (.ref a) = true)
    (hb : ∀ (kV doc pm : Value) (an : Option Addr) (cdv ct : Value) (us : List Value), us.length = ps.length → bindArgs (PySem.W.fnOf x q (defArgs st) (defBody st) (defScope st) .none kV doc pm an cdv ct) ⟨us, []⟩ = pure (ps.zip us)) : Mt K C x q st ps :=
  ⟨a, _, fun_mk l c k, (fun_mk l c k).binds hb, e, i, k⟩
theorem c_of {K : PySem.W.Frag} {mg : Str → Option Value} {h : Heap} {x : Str} {n : Int} {t : Nat} (X : K.In h) (G : h.Ns mainGlobals mg) (e : PySem.W.nsIn K mainGlobals x = some (some (.int n t))) : ∃ t, mg x = some (.int n t) := ⟨t, PySem.W.mg_of X G e⟩
theorem na_of {K : PySem.W.Frag} {C : Addr} {f : Str} (e : PySem.W.findIn K (.ref C) f = some none) : NoAttr K C f := e
theorem ox_of {K : PySem.W.Frag} {C : Addr} {nm q : Str} {N : Addr} {bs : List Value} {sn : List Str} {sub : List Value} {ab : Bool} {col : Option Bool} {dd : Option Addr} {m0 m1 m2 m3 m5 : Option Value}
    (xL : K.lookup C = some (excClassObj nm q C N bs [.type "ValueError", .type "Exception", .type "BaseException", .type "object"] true sn sub ab col dd m0 m1 m2 m3 m5 "ValueError.__new__"))
    (sa : PySem.W.findIn K (.ref C) "__setattr__" = some (some (.builtin "object.__setattr__"))) (eC : PySem.W.subIn K (.ref C) (.type "BaseException") = some true) (tC : PySem.W.typeIn K (.ref C) = some (.type "type")) (kC : PySem.W.keepIn K (.ref C) = true) : OexC K C :=
  ⟨⟨nm, q, N, bs, _, sn, sub, ab, col, dd, m0, m1, m2, m3, m5, xL, by decide +kernel⟩, sa, eC, tC, kC⟩
theorem exm_self {K : PySem.W.Frag} {S : Addr} (h1 : PySem.W.subIn K (.ref S) (.type "BaseException") = some true) (h2 : PySem.W.isClsIn K S = true) (h3 : PySem.W.typeIn K (.ref S) = some (.type "type")) (h4 : PySem.W.subIn K (.ref S) (.ref S) = some true) :
    PySem.W.exmOne K (.ref S) (.ref S) = some true := by
  have e1 : (PySem.W.subIn K (.ref S) (.type "BaseException") == some true) = true := by rw [h1] <;> rfl
  have e2 : ((PySem.W.clsIn K S).isSome && PySem.W.typeIn K (.ref S) == some (.type "type")) = true := by
    have h2' : (PySem.W.clsIn K S).isSome = true := h2
    rw [h2', h3] <;> rfl
  show (if (PySem.W.subIn K (.ref S) (.type "BaseException") == some true) = true then (if ((PySem.W.clsIn K S).isSome && PySem.W.typeIn K (.ref S) == some (.type "type")) = true then PySem.W.subIn K (.ref S) (.ref S) else none) else none) = some true
  rw [if_pos e1, if_pos e2]
  exact h4
theorem all_fin {P : Program} {w : World} {K : PySem.W.Frag} {mg : Str → Option Value} {fa : Addr} (T : Txt K mg) (hfa : mg "rules" = some (.ref fa)) :
    ∃ fd : FuncData, (∀ (s : Shared) (us : List Value), us.length = (["t"] : List Str).length → BindsTo s fd ⟨us, []⟩ ((["t"] : List Str).zip us)) ∧ ∀ base : Heap, K.In base → base.Ns mainGlobals mg → FnOk P w K mg base CX0 10 fa fd ["t"] (sp_rules K) := by
  have e := hfa.symm.trans T.f_rules.g
  cases e
  refine ⟨T.f_rules.fd, fun s us hu => ?_, fun base _ _ => ok_rules T⟩
  obtain ⟨oc, od, kV, doc, pm, an, cdv, ct, osl, e, lk, hcd⟩ := T.f_rules.F.ex
  rw [e]
  exact match us, hu with | [_], _ => .of_eq rfl
end Sr
open PySem PySem.W PyProof.Rows
set_option maxRecDepth 100000 in
set_option maxHeartbeats 0 in
theorem PySem.Challenge.cw_segmentrules_s01_rules_holds : PySem.Challenge.rw_segmentrules_s01_rules.Holds := by
  w_on; k_headS; (case hw => exact ⟨[.list []], by decide +kernel, by decide +kernel⟩)
  k_fillS
  refine L2.walk_specK (r := PySem.Challenge.rw_segmentrules_s01_rules) (k := 10) (CX := L2.CX0) (ps := ["t"]) (sp := Sr.sp_rules) (by decide +kernel) rfl rfl ⟨rfl, by decide, by decide⟩ (fun w h Y => PySem.W.kIn_of Y) ?F ?S (fun _ _ _ _ z => z)
  case F =>
    intro w mg fa h Y KX G hmg
    refine' Sr.all_fin { C := _, CF := _, aI := _, fI := _, g_Reading := (PySem.W.mg_of KX G ?gRd), g_Fault := (PySem.W.mg_of KX G ?gFt), cl_Reading := ⟨?cpg, ?chd, ?cpo, ?csa⟩, na_octets := (Sr.na_of ?na_octets), na_at := (Sr.na_of ?na_at), na_classes := (Sr.na_of ?na_classes), ox := (Sr.ox_of ?xL ?xsa ?xex ?xty ?xk), xf := ⟨?xga, ?xgg, ?xex, ?xhd⟩, xp := ?xp, exm := (Sr.exm_self ?xex ?xic ?xty ?xsc), ix := ?ix, tx := ?tx, FI := (L2.fun_mk (st := Sr.s_Fault___init__) ?fIl ?fIc ?fIk), bI := ((L2.fun_mk (st := Sr.s_Fault___init__) ?fIl ?fIc ?fIk).binds (ps := ["self", "place"]) (fun _ _ _ _ _ _ us hl => match us, hl with | [_, _], _ => rfl)), m_Reading___init__ := (Sr.Mt.of (st := Sr.s_Reading___init__) (ps := ["self", "octets"]) ?ma___init__ ?mi___init__ ?ml___init__ ?mc___init__ ?mk___init__ (fun _ _ _ _ _ _ us hl => match us, hl with | [_, _], _ => rfl)), m_Reading_here := (Sr.Mt.of (st := Sr.s_Reading_here) (ps := ["self"]) ?ma_here ?mi_here ?ml_here ?mc_here ?mk_here (fun _ _ _ _ _ _ us hl => match us, hl with | [_], _ => rfl)), m_Reading_take := (Sr.Mt.of (st := Sr.s_Reading_take) (ps := ["self", "octet"]) ?ma_take ?mi_take ?ml_take ?mc_take ?mk_take (fun _ _ _ _ _ _ us hl => match us, hl with | [_, _], _ => rfl)), m_Reading_number := (Sr.Mt.of (st := Sr.s_Reading_number) (ps := ["self", "spans"]) ?ma_number ?mi_number ?ml_number ?mc_number ?mk_number (fun _ _ _ _ _ _ us hl => match us, hl with | [_, _], _ => rfl)), m_Reading_ranges := (Sr.Mt.of (st := Sr.s_Reading_ranges) (ps := ["self"]) ?ma_ranges ?mi_ranges ?ml_ranges ?mc_ranges ?mk_ranges (fun _ _ _ _ _ _ us hl => match us, hl with | [_], _ => rfl)), m_Reading_read_classes := (Sr.Mt.of (st := Sr.s_Reading_read_classes) (ps := ["self"]) ?ma_read_classes ?mi_read_classes ?ml_read_classes ?mc_read_classes ?mk_read_classes (fun _ _ _ _ _ _ us hl => match us, hl with | [_], _ => rfl)), m_Reading_certain := (Sr.Mt.of (st := Sr.s_Reading_certain) (ps := ["self"]) ?ma_certain ?mi_certain ?ml_certain ?mc_certain ?mk_certain (fun _ _ _ _ _ _ us hl => match us, hl with | [_], _ => rfl)), m_Reading_atom := (Sr.Mt.of (st := Sr.s_Reading_atom) (ps := ["self"]) ?ma_atom ?mi_atom ?ml_atom ?mc_atom ?mk_atom (fun _ _ _ _ _ _ us hl => match us, hl with | [_], _ => rfl)), m_Reading_item := (Sr.Mt.of (st := Sr.s_Reading_item) (ps := ["self"]) ?ma_item ?mi_item ?ml_item ?mc_item ?mk_item (fun _ _ _ _ _ _ us hl => match us, hl with | [_], _ => rfl)), m_Reading_items_before := (Sr.Mt.of (st := Sr.s_Reading_items_before) (ps := ["self"]) ?ma_items_before ?mi_items_before ?ml_items_before ?mc_items_before ?mk_items_before (fun _ _ _ _ _ _ us hl => match us, hl with | [_], _ => rfl)), m_Reading_items_behind := (Sr.Mt.of (st := Sr.s_Reading_items_behind) (ps := ["self"]) ?ma_items_behind ?mi_items_behind ?ml_items_behind ?mc_items_behind ?mk_items_behind (fun _ _ _ _ _ _ us hl => match us, hl with | [_], _ => rfl)), m_Reading_read_rule := (Sr.Mt.of (st := Sr.s_Reading_read_rule) (ps := ["self"]) ?ma_read_rule ?mi_read_rule ?ml_read_rule ?mc_read_rule ?mk_read_rule (fun _ _ _ _ _ _ us hl => match us, hl with | [_], _ => rfl)), m_Reading_whole := (Sr.Mt.of (st := Sr.s_Reading_whole) (ps := ["self"]) ?ma_whole ?mi_whole ?ml_whole ?mc_whole ?mk_whole (fun _ _ _ _ _ _ us hl => match us, hl with | [_], _ => rfl)), mk_Reading := ⟨?mkR, ?ma___init__, ?mi___init__, ?kpR⟩, c_BLANK := (Sr.c_of KX G ?k_BLANK), c_ANY := (Sr.c_of KX G ?k_ANY), c_OF_CLASS := (Sr.c_of KX G ?k_OF_CLASS), c_CERTAIN := (Sr.c_of KX G ?k_CERTAIN), c_GREATEST := (Sr.c_of KX G ?k_GREATEST), c_LAST_CLASS := (Sr.c_of KX G ?k_LAST_CLASS), c_MOST_TIMES := (Sr.c_of KX G ?k_MOST_TIMES), c_LINE_END := (Sr.c_of KX G ?k_LINE_END), c_QUOTE := (Sr.c_of KX G ?k_QUOTE), c_CLASS_SIGN := (Sr.c_of KX G ?k_CLASS_SIGN), c_STAR := (Sr.c_of KX G ?k_STAR), c_PLUS := (Sr.c_of KX G ?k_PLUS), c_MINUS := (Sr.c_of KX G ?k_MINUS), c_DOT := (Sr.c_of KX G ?k_DOT), c_BEGINNING := (Sr.c_of KX G ?k_BEGINNING), c_BAR := (Sr.c_of KX G ?k_BAR), c_ENDING := (Sr.c_of KX G ?k_ENDING), c_MOST_RULES_TEXT := (Sr.c_of KX G ?k_MOST_RULES_TEXT), c_TOO_GREAT := (Sr.c_of KX G ?k_TOO_GREAT), c_WRONG := (Sr.c_of KX G ?k_WRONG), b_len := (PySem.W.mg_none_of KX G ?z_len), b_max := (PySem.W.mg_none_of KX G ?z_max), b_tuple := (PySem.W.mg_none_of KX G ?z_tuple), b_list := (PySem.W.mg_none_of KX G ?z_list), b_range := (PySem.W.mg_none_of KX G ?z_range), b_ValueError := (PySem.W.mg_none_of KX G ?z_ValueError), f_further := (Sr.Fn.of (st := Sr.s_further) (ps := ["octet"]) KX G ?fa_further ?fl_further ?fc_further ?fk_further (fun _ _ _ _ _ _ us hl => match us, hl with | [_], _ => rfl)), f_least_behind := (Sr.Fn.of (st := Sr.s_least_behind) (ps := ["got"]) KX G ?fa_least_behind ?fl_least_behind ?fc_least_behind ?fk_least_behind (fun _ _ _ _ _ _ us hl => match us, hl with | [_], _ => rfl)), f_most_behind := (Sr.Fn.of (st := Sr.s_most_behind) (ps := ["got"]) KX G ?fa_most_behind ?fl_most_behind ?fc_most_behind ?fk_most_behind (fun _ _ _ _ _ _ us hl => match us, hl with | [_], _ => rfl)), f_code_of := (Sr.Fn.of (st := Sr.s_code_of) (ps := ["got"]) KX G ?fa_code_of ?fl_code_of ?fc_code_of ?fk_code_of (fun _ _ _ _ _ _ us hl => match us, hl with | [_], _ => rfl)), f_character_at := (Sr.Fn.of (st := Sr.s_character_at) (ps := ["octets", "at", "end"]) KX G ?fa_character_at ?fl_character_at ?fc_character_at ?fk_character_at (fun _ _ _ _ _ _ us hl => match us, hl with | [_, _, _], _ => rfl)), f_can_begin := (Sr.Fn.of (st := Sr.s_can_begin) (ps := ["number", "low", "high"]) KX G ?fa_can_begin ?fl_can_begin ?fc_can_begin ?fk_can_begin (fun _ _ _ _ _ _ us hl => match us, hl with | [_, _, _], _ => rfl)), f_is_begun := (Sr.Fn.of (st := Sr.s_is_begun) (ps := ["number", "spans"]) KX G ?fa_is_begun ?fl_is_begun ?fc_is_begun ?fk_is_begun (fun _ _ _ _ _ _ us hl => match us, hl with | [_, _], _ => rfl)), f_read_rules := (Sr.Fn.of (st := Sr.s_read_rules) (ps := ["octets"]) KX G ?fa_read_rules ?fl_read_rules ?fc_read_rules ?fk_read_rules (fun _ _ _ _ _ _ us hl => match us, hl with | [_], _ => rfl)), f_are_items_beyond := (Sr.Fn.of (st := Sr.s_are_items_beyond) (ps := ["items"]) KX G ?fa_are_items_beyond ?fl_are_items_beyond ?fc_are_items_beyond ?fk_are_items_beyond (fun _ _ _ _ _ _ us hl => match us, hl with | [_], _ => rfl)), f_is_beyond := (Sr.Fn.of (st := Sr.s_is_beyond) (ps := ["ruling"]) KX G ?fa_is_beyond ?fl_is_beyond ?fc_is_beyond ?fk_is_beyond (fun _ _ _ _ _ _ us hl => match us, hl with | [_], _ => rfl)), f_rules := (Sr.Fn.of (st := Sr.s_rules) (ps := ["t"]) KX G ?fa_rules ?fl_rules ?fc_rules ?fk_rules (fun _ _ _ _ _ _ us hl => match us, hl with | [_], _ => rfl)) } hmg
    (case gRd => k_is)
    (case gFt => k_is)
    (case cpg => k_is)
    (case chd => k_is)
    (case cpo => k_is)
    (case csa => k_is)
    (case na_octets => k_is)
    (case na_at => k_is)
    (case na_classes => k_is)
    (case xL => k_is)
    (case xsa => k_is)
    (case xex => k_is)
    (case xty => k_is)
    (case xk => k_is)
    (case xga => k_is)
    (case xgg => k_is)
    (case xhd => k_is)
    (case xp => k_is)
    (case xic => k_is)
    (case xsc => first | rfl | k_is)
    (case ix => k_is)
    (case tx => k_is)
    (case fIl => k_is)
    (case fIc => k_is)
    (case fIk => k_is)
    (case ma___init__ => k_is)
    (case mi___init__ => k_is)
    (case ml___init__ => k_is)
    (case mc___init__ => k_is)
    (case mk___init__ => k_is)
    (case ma_here => k_is)
    (case mi_here => k_is)
    (case ml_here => k_is)
    (case mc_here => k_is)
    (case mk_here => k_is)
    (case ma_take => k_is)
    (case mi_take => k_is)
    (case ml_take => k_is)
    (case mc_take => k_is)
    (case mk_take => k_is)
    (case ma_number => k_is)
    (case mi_number => k_is)
    (case ml_number => k_is)
    (case mc_number => k_is)
    (case mk_number => k_is)
    (case ma_ranges => k_is)
    (case mi_ranges => k_is)
    (case ml_ranges => k_is)
    (case mc_ranges => k_is)
    (case mk_ranges => k_is)
    (case ma_read_classes => k_is)
    (case mi_read_classes => k_is)
    (case ml_read_classes => k_is)
    (case mc_read_classes => k_is)
    (case mk_read_classes => k_is)
    (case ma_certain => k_is)
    (case mi_certain => k_is)
    (case ml_certain => k_is)
    (case mc_certain => k_is)
    (case mk_certain => k_is)
    (case ma_atom => k_is)
    (case mi_atom => k_is)
    (case ml_atom => k_is)
    (case mc_atom => k_is)
    (case mk_atom => k_is)
    (case ma_item => k_is)
    (case mi_item => k_is)
    (case ml_item => k_is)
    (case mc_item => k_is)
    (case mk_item => k_is)
    (case ma_items_before => k_is)
    (case mi_items_before => k_is)
    (case ml_items_before => k_is)
    (case mc_items_before => k_is)
    (case mk_items_before => k_is)
    (case ma_items_behind => k_is)
    (case mi_items_behind => k_is)
    (case ml_items_behind => k_is)
    (case mc_items_behind => k_is)
    (case mk_items_behind => k_is)
    (case ma_read_rule => k_is)
    (case mi_read_rule => k_is)
    (case ml_read_rule => k_is)
    (case mc_read_rule => k_is)
    (case mk_read_rule => k_is)
    (case ma_whole => k_is)
    (case mi_whole => k_is)
    (case ml_whole => k_is)
    (case mc_whole => k_is)
    (case mk_whole => k_is)
    (case mkR => k_is)
    (case kpR => k_is)
    (case k_BLANK => k_is)
    (case k_ANY => k_is)
    (case k_OF_CLASS => k_is)
    (case k_CERTAIN => k_is)
    (case k_GREATEST => k_is)
    (case k_LAST_CLASS => k_is)
    (case k_MOST_TIMES => k_is)
    (case k_LINE_END => k_is)
    (case k_QUOTE => k_is)
    (case k_CLASS_SIGN => k_is)
    (case k_STAR => k_is)
    (case k_PLUS => k_is)
    (case k_MINUS => k_is)
    (case k_DOT => k_is)
    (case k_BEGINNING => k_is)
    (case k_BAR => k_is)
    (case k_ENDING => k_is)
    (case k_MOST_RULES_TEXT => k_is)
    (case k_TOO_GREAT => k_is)
    (case k_WRONG => k_is)
    (case z_len => k_is)
    (case z_max => k_is)
    (case z_tuple => k_is)
    (case z_list => k_is)
    (case z_range => k_is)
    (case z_ValueError => k_is)
    (case fa_further => k_is)
    (case fl_further => k_is)
    (case fc_further => k_is)
    (case fk_further => k_is)
    (case fa_least_behind => k_is)
    (case fl_least_behind => k_is)
    (case fc_least_behind => k_is)
    (case fk_least_behind => k_is)
    (case fa_most_behind => k_is)
    (case fl_most_behind => k_is)
    (case fc_most_behind => k_is)
    (case fk_most_behind => k_is)
    (case fa_code_of => k_is)
    (case fl_code_of => k_is)
    (case fc_code_of => k_is)
    (case fk_code_of => k_is)
    (case fa_character_at => k_is)
    (case fl_character_at => k_is)
    (case fc_character_at => k_is)
    (case fk_character_at => k_is)
    (case fa_can_begin => k_is)
    (case fl_can_begin => k_is)
    (case fc_can_begin => k_is)
    (case fk_can_begin => k_is)
    (case fa_is_begun => k_is)
    (case fl_is_begun => k_is)
    (case fc_is_begun => k_is)
    (case fk_is_begun => k_is)
    (case fa_read_rules => k_is)
    (case fl_read_rules => k_is)
    (case fc_read_rules => k_is)
    (case fk_read_rules => k_is)
    (case fa_are_items_beyond => k_is)
    (case fl_are_items_beyond => k_is)
    (case fc_are_items_beyond => k_is)
    (case fk_are_items_beyond => k_is)
    (case fa_is_beyond => k_is)
    (case fl_is_beyond => k_is)
    (case fc_is_beyond => k_is)
    (case fk_is_beyond => k_is)
    (case fa_rules => k_is)
    (case fl_rules => k_is)
    (case fc_rules => k_is)
    (case fk_rules => k_is)
  case S =>
    intro K H xs a hO hwi hask hx
    cases hx with
    | cons h1 h2 =>
      cases h2
      cases h1 with
      | lst hs ha =>
        have e := L2.ints_dw a.1 _ ha
        subst e
        have q : ((Codec.inLen 0 65600 a.1 && a.1.all (Codec.inInt 0 255)) && true) = true := hwi
        rw [Bool.and_eq_true, Bool.and_eq_true] at q
        obtain ⟨b, hb1, hb2⟩ := Sr.bytes_of q.1.2
        refine ⟨_, b, rfl, ?_, ?_, fun p H' hs' hp => ?_⟩
        · show L2.SqL K H _ ((Sr.bI b).map L2.V.int)
          rw [hb1]; exact hs
        · have := (Codec.inNat_iff.mp q.1.1).2
          rw [← hb1, Sr.bI_len] at this
          omega
        · have e : (PyYqfhba.rules a.1) = Sm.rulesAns b := by
            rw [Sm.rulesAns_eq]
            exact congrArg Sm.rulesAns hb2
          show L2.Dw K H' (.ref p) ((Codec.list 0 1048576 (.int _ _)).enc (PyYqfhba.rules a.1))
          rw [e]
          exact .lst (L2.SqL.of hp) (L2.dw_ints _)
#print axioms PySem.Challenge.cw_segmentrules_s01_rules_holds
