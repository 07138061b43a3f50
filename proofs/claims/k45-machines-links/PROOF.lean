import PyProof.Rows.All
import Wide.All
import OpenK.AllK
import Wide.FinOn
import KE.KStateDown
import Lean
import HandS.ForMost
import HandS.Exc
import HandS.More
import HandS.WordsExc
import HandS.Defaults
import HandS.Codes
import HandS.IsInst
import HandS.OwnEq
import HandS.Wide
import HandS.TupAny
import HandS.Style
import HandS.Walk
import HandS.SlotsOwn
import HandS.Zip
import HandS.HeadHook1
import KE.GoesEnum
import HandS.Head0
import HandS.Head1
import HandS.Head2
import HandS.HeadEnd
import HandS.HeadHook2
import HandS.HeadHook3
import HandS.HeadHook4
import PySem.Challenge.RW_pagesagain_k45_machines_and_links_side_b
set_option Elab.async false
set_option linter.all false
set_option maxRecDepth 100000
set_option maxHeartbeats 0
namespace Pg
open PySem PySem.Spec PyProof.Rows L2

/-! ### readings, one step at a time -/
section
variable {σ : L2.St} {H : Hp} {Q : VK} {D : Ends} {K : PySem.W.Frag}
theorem r_var {i : Nat} {v : V} (h : σ[i]? = some (some v)) (q : Q v H) : tVar i σ H Q := ⟨v, h, q⟩
theorem r_c {v : V} (q : Q v H) : tC v σ H Q := q
theorem r_op {r : R2} {ta tb : TE} (q : ta σ H fun x H1 => tb σ H1 fun y H2 => r x y H2 Q) : tOp r ta tb σ H Q := q
theorem r_un {r : V → Hp → VK → Prop} {ta : TE} (q : ta σ H fun x H1 => r x H1 Q) : tUn r ta σ H Q := q
theorem r_I0 {g : Int → Int → V} {i j : Int} (q : Q (g i j) H) : rI0 g (.int i) (.int j) H Q := ⟨i, j, rfl, rfl, q⟩
theorem r_I {C : Int → Int → Prop} {g : Int → Int → V} {i j : Int} (c : C i j) (q : Q (g i j) H) : rI C g (.int i) (.int j) H Q := ⟨i, j, rfl, rfl, c, q⟩
theorem r_U {g : Int → V} {i : Int} (q : Q (g i) H) : rU g (.int i) H Q := ⟨i, rfl, q⟩
theorem r_eq {x y : V} (s : scal x y = true) (q : Q (.bl (decide (x = y))) H) : rEq x y H Q := ⟨s, q⟩
theorem r_ne {x y : V} (s : scal x y = true) (q : Q (.bl (!decide (x = y))) H) : rNe x y H Q := ⟨s, q⟩
theorem r_and {ta tb : TE} (q : ta σ H fun x H1 => ∃ c, x = .bl c ∧ if c = true then tb σ H1 Q else Q (.bl false) H1) : tAndV ta tb σ H Q := q
theorem r_or {ta tb : TE} (q : ta σ H fun x H1 => ∃ c, x = .bl c ∧ if c = true then Q (.bl true) H1 else tb σ H1 Q) : tOrV ta tb σ H Q := q
theorem r_not {ta : TE} (q : ta σ H fun x H1 => ∃ c, x = .bl c ∧ Q (.bl (!c)) H1) : tNotV ta σ H Q := q
theorem r_bl {c : Bool} {P : Bool → Prop} (q : P c) : ∃ k, V.bl c = .bl k ∧ P k := ⟨c, rfl, q⟩
theorem r_if {t : TT} {ta tb : TE} (q : t σ H fun c H1 => if c = true then ta σ H1 Q else tb σ H1 Q) : tIf t ta tb σ H Q := q
theorem r_tt {t : TE} {R : Bool → Hp → Prop} (q : t σ H fun x H' => ∃ k, x = .bl k ∧ R k H') : tTest t σ H R := q
theorem r_tb {t : TE} {R : Bool → Hp → Prop} (q : t σ H fun x H' => ∃ k, x = .bl k ∧ R k H') : tB t σ H R := q
theorem r_tand {t u : TT} {R : Bool → Hp → Prop} (q : t σ H fun c H1 => if c = true then u σ H1 R else R false H1) : tAnd t u σ H R := q
theorem r_tor {t u : TT} {R : Bool → Hp → Prop} (q : t σ H fun c H1 => if c = true then R true H1 else u σ H1 R) : tOr t u σ H R := q
theorem r_tnot {t : TT} {R : Bool → Hp → Prop} (q : t σ H fun c H1 => R (!c) H1) : tNot t σ H R := q
theorem r_chain {r r' : R2} {ta tb tc : TE} (q : ta σ H fun x H1 => tb σ H1 fun y H2 => r x y H2 fun z H3 => ∃ k, z = .bl k ∧ if k = true then tc σ H3 fun u H4 => r' y u H4 Q else Q (.bl false) H3) : tChain r r' ta tb tc σ H Q := q
theorem r_nil {R : List V → Hp → Prop} (q : R [] H) : tNil σ H R := q
theorem r_cons {ta : TE} {tr : TA} {R : List V → Hp → Prop} (q : ta σ H fun x H1 => tr σ H1 fun xs H2 => R (x :: xs) H2) : tCons ta tr σ H R := q
theorem r_cb {r : List V → Hp → VK → Prop} {t : TA} (q : t σ H fun vs H1 => r vs H1 Q) : tCB r t σ H Q := q
theorem r_call {sp : Sp} {dvs : List V} {E : XK} {t : TA} (q : t σ H fun vs H1 => sp (vs ++ dvs) H1 Q E) : tCall sp dvs E t σ H Q := q
theorem r_make {C : Addr} {sp : Sp} {dvs : List V} {E : XK} {t : TA} (q : t σ H fun vs H1 => ∀ x dx, H1 x = none → H1 dx = none → dx ≠ x →
    sp (.ref x :: (vs ++ dvs)) (upd (upd H1 dx (.own x)) x (.ins C dx [])) (fun r H2 => r = .non ∧ Q (.ref x) H2) E) : tMake C sp dvs E t σ H Q := q
theorem r_fld {ta : TE} {f : Str} (q : ta σ H fun x H1 => ∃ a C dx fs v, x = .ref a ∧ H1 a = some (.ins C dx fs) ∧ Cls K C ∧ NoAttr K C f ∧ fs.lookup f = some v ∧ Q v H1) : tFld K ta f σ H Q := q
theorem r_lst {t : TA} (q : t σ H fun xs H1 => xs.length ≤ sizeLine ∧ ∀ p, H1 p = none → Q (.ref p) (upd H1 p (.lst xs))) : tLst t σ H Q := q
theorem r_tup {t : TA} (q : t σ H fun xs H1 => xs.length ≤ sizeLine ∧ ∀ p, H1 p = none → Q (.ref p) (upd H1 p (.tup xs))) : tTup t σ H Q := q
theorem r_sl {r : V → Option Int → Option Int → Hp → VK → Prop} {te : TE} {tl th : TO} (q : te σ H fun x H1 => tl σ H1 fun l H2 => th σ H2 fun u H3 => r x l u H3 Q) : tSl r te tl th σ H Q := q
theorem r_nopart {R : Option Int → Hp → Prop} (q : R none H) : tNoPart σ H R := q
theorem r_part {t : TE} {R : Option Int → Hp → Prop} (q : t σ H fun x H1 => ∃ i, x = .int i ∧ R (some i) H1) : tPart t σ H R := q
theorem r_int {i : Int} {P : Int → Prop} (q : P i) : ∃ k, V.int i = .int k ∧ P k := ⟨i, rfl, q⟩
theorem r_bm {T : String} {r : V → List V → Hp → VK → Prop} {to : TE} {t : TA} (q : to σ H fun x H1 => tyV K T x H1 ∧ t σ H1 fun xs H2 => r x xs H2 Q) : tBM K T r to t σ H Q := q
theorem r_bm0 {T : String} {r : V → List V → Hp → VK → Prop} {to : TE} (q : to σ H fun x H1 => tyV K T x H1 ∧ r x [] H1 Q) : tBM0 K T r to σ H Q := q
theorem r_m1 {r : V → List V → Hp → VK → Prop} {to te : TE} (q : to σ H fun x H1 => (∃ a, x = .str a) ∧ te σ H1 fun y H2 => r x [y] H2 Q) : tM1 r to te σ H Q := q
theorem r_m0 {r : V → List V → Hp → VK → Prop} {to : TE} (q : to σ H fun x H1 => (∃ a, x = .str a) ∧ r x [] H1 Q) : tM0 r to σ H Q := q
theorem r_next (q : D.nx σ H) : tNext D σ H := q
theorem r_seq {t u : TS} (q : t { D with nx := u D } σ H) : tSeq t u D σ H := q
theorem r_asg {te : TE} {g : TG} (q : te σ H fun x H1 => g x σ H1 D.nx) : tAsg te g D σ H := q
theorem r_ret {te : TE} (q : te σ H D.rt) : tRet te D σ H := q
theorem r_retN (q : D.rt .non H) : tRetN D σ H := q
theorem r_drop {te : TE} (q : te σ H fun _ H1 => D.nx σ H1) : tDrop te D σ H := q
theorem r_ifs {c : TT} {t u : TS} (q : c σ H fun b H1 => if b = true then t D σ H1 else u D σ H1) : tIfS c t u D σ H := q
theorem r_break (q : D.bk σ H) : tBreak D σ H := q
theorem r_cont (q : D.ct σ H) : tCont D σ H := q
theorem r_name {i : Nat} {v : V} {σ' : L2.St} {N : L2.St → Hp → Prop} (e : σ.set i (some v) = σ') (q : N σ' H) : gName i v σ H N := by
  show N (σ.set i (some v)) H
  rw [e]; exact q
theorem r_sfld {ta tv : TE} {f : Str} (q : tv σ H fun y H1 => ta σ H1 fun x H2 => ∃ a C dx fs, x = .ref a ∧ H2 a = some (.ins C dx fs) ∧ Cls K C ∧ NoAttr K C f ∧ fs.length < 1000 ∧ D.nx σ (upd H2 a (.ins C dx (putF f y fs)))) : sFld K ta tv f D σ H := q
theorem r_par {i j : Nat} {ta : TA} (q : ta σ H fun vs H1 => ∃ v w, vs = [v, w] ∧ D.nx ((σ.set i (some v)).set j (some w)) H1) : tPar i j ta D σ H := q
theorem r_par2 {v w : V} {P : V → V → Prop} (q : P v w) : ∃ a b, [v, w] = [a, b] ∧ P a b := ⟨v, w, rfl, q⟩
theorem r_par3 {i j l : Nat} {ta : TA} (q : ta σ H fun vs H1 => ∃ u v w, vs = [u, v, w] ∧ D.nx (((σ.set i (some u)).set j (some v)).set l (some w)) H1) : tPar3 i j l ta D σ H := q
theorem r_aug {i : Nat} {te : TE} {ti : TIp} {x : V} (h : σ[i]? = some (some x)) (q : te σ H fun y H1 => ti x y H1 fun z H2 => D.nx (σ.set i (some z)) H2) : tAug i te ti D σ H := ⟨x, h, q⟩
theorem r_ipI {f : Int → Int → Int} {i j : Int} (q : Q (.int (f i j)) H) : ipI f (.int i) (.int j) H Q := ⟨i, j, rfl, rfl, q⟩
theorem r_isN {x : V} (q : Q (.bl (decide (x = .non))) H) : (fun (x y : V) (H : Hp) (Q : VK) => y = .non ∧ Q (.bl (decide (x = .non))) H) x .non H Q := ⟨rfl, q⟩
/-- branches -/
theorem r_dec {c : Prop} [Decidable c] {A B : Prop} (h1 : c → A) (h2 : ¬ c → B) : if decide c = true then A else B := by
  by_cases h : c
  · rw [decide_eq_true h]; exact iteT (h1 h)
  · rw [decide_eq_false h]; exact iteF (h2 h)
theorem r_ndec {c : Prop} [Decidable c] {A B : Prop} (h1 : ¬ c → A) (h2 : c → B) : if (!decide c) = true then A else B := by
  by_cases h : c
  · rw [decide_eq_true h]; exact iteF (h2 h)
  · rw [decide_eq_false h]; exact iteT (h1 h)
theorem r_yes {c : Prop} [Decidable c] {A B : Prop} (h : c) (q : A) : if decide c = true then A else B := by rw [decide_eq_true h]; exact iteT q
theorem r_no {c : Prop} [Decidable c] {A B : Prop} (h : ¬ c) (q : B) : if decide c = true then A else B := by rw [decide_eq_false h]; exact iteF q
theorem r_iteT {A B : Prop} (q : A) : if true = true then A else B := iteT q
theorem r_iteF {A B : Prop} (q : B) : if false = true then A else B := iteF q
theorem r_inT {A B : Prop} (q : A) : if (!false) = true then A else B := iteT q
theorem r_inF {A B : Prop} (q : B) : if (!true) = true then A else B := iteF q
end

end Pg

namespace Pg
open PySem PySem.Spec PyProof.Rows L2

/-! ### a def of the text behind the top, a promise that may be called -/
/-- the def under its name -/
structure At (K : PySem.W.Frag) (mg : Str → Option Value) (x : Str) (st : Stmt) (dvs : List V) (kws : List (Str × V)) (f : Addr) (fd : FuncData) : Prop where
  fn : FunD K x x (defArgs st) (defBody st) (defScope st) dvs kws f fd
  mgf : mg x = some (.ref f)
/-- called by its name: sp is kept, the last parameters are filled by dvs -/
structure Cl (P : Program) (w : World) (K : PySem.W.Frag) (mg : Str → Option Value) (base : Heap) (k : Nat) (x : Str) (sp : Sp) (dvs : List V) : Prop where
  ex : ∃ (f : Addr) (fd : FuncData) (ps : List Str) (ds : List Value), FnOk P w K mg base (L2.CX P w) k f fd ps sp ∧ mg x = some (.ref f) ∧ PySem.W.keepIn K (.ref f) = true ∧ Binds K fd ps ds ∧ Vals dvs ds
/-- a class called by its name -/
structure Cm (P : Program) (w : World) (K : PySem.W.Frag) (mg : Str → Option Value) (base : Heap) (k : Nat) (x : Str) (C : Addr) (sp : Sp) (dvs : List V) : Prop where
  ex : ∃ (f : Addr) (fd : FuncData) (ps : List Str) (ds : List Value), Mk K C f ∧ FnOk P w K mg base (L2.CX P w) k f fd ps sp ∧ mg x = some (.ref C) ∧ Binds K fd ps ds ∧ Vals dvs ds
section
variable {P : Program} {w : World} {K : PySem.W.Frag} {mg : Str → Option Value} {base : Heap}
theorem cl_of {x : Str} {st : Stmt} {f : Addr} {fd : FuncData} {N ps : List Str} {k : Nat} {sp : Sp} (F : At K mg x st [] [] f fd) (S : FnScope N ps (defScope st))
    (hb : ∀ (kV doc pm : Value) (an : Option Addr) (cdv ct : Value) (us : List Value), us.length = ps.length → bindArgs (PySem.W.fnOf x x (defArgs st) (defBody st) (defScope st) .none kV doc pm an cdv ct) ⟨us, []⟩ = pure (ps.zip us))
    (len : ∀ vs H Q E, sp vs H Q E → vs.length = ps.length)
    (body : ∀ (cdv : Value) (A : Around) (outer : List Env) (s : Shared) (H : Hp) (vs : List V) (Q : VK) (E : XK), Room k (A.deeper (envOfC x (defScope st) s.heap.objs.size f cdv)) → sp vs H Q E →
      ∃ t, PSs (cxOf (L2.CX P w) P w K mg base N x (defScope st) f cdv A outer s H E).nox (defBody st) t ∧ t { nx := fun _ H' => Q .non H', rt := Q } (start N vs) H) : Cl P w K mg base (k + 1) x sp [] :=
  ⟨f, fd, ps, [], F.fn.ok S len fun cdv A outer s H vs Q E hr h => let ⟨t, p, q⟩ := body cdv A outer s H vs Q E hr h; ⟨t, p.nox, q⟩, F.mgf, F.fn.kp, F.fn.bindsN hb, .nil⟩
theorem Cl.mono {j k : Nat} {x : Str} {sp : Sp} {dvs : List V} (c : Cl P w K mg base j x sp dvs) (h : j ≤ k) : Cl P w K mg base k x sp dvs := by
  obtain ⟨f, fd, ps, ds, F, r⟩ := c.ex
  exact ⟨f, fd, ps, ds, F.mono h, r⟩
end
section
variable {X : Cx} {k j : Nat} {C : Addr} {x : Str} {sp : Sp} {dvs : List V} {p pos : Pos} {e : Expr} {es : List Expr} {t : TA}
theorem pcl (c : Cl X.prog X.w X.K X.mg X.base k x sp dvs) (hr : Room j X.A) (hk : k ≤ j) (hg : Gl X x) (ha : PA X (e :: es) t)
    (hdb : (x == ("__debug__" : Str)) = false := by decide) (he : starEach (e :: es) X.env = (false, eval e X.env) :: starEach es X.env := by rfl) (hpl : (backTo pos (starEach es X.env)).any (·.1) = false := by rfl) :
    PE X (.Call (.Name x p) (e :: es) [] pos) (tCall sp dvs E0 t) := by
  obtain ⟨f, fd, ps, ds, F, hm, kp, b, d⟩ := c.ex
  exact pe_call F (hr.mono hk) hg hm kp b d passL ha hdb he hpl
theorem pmk (c : Cm X.prog X.w X.K X.mg X.base k x C sp dvs) (hr : Room j X.A) (hk : k + 1 ≤ j) (hg : Gl X x) (ha : PA X (e :: es) t)
    (hdb : (x == ("__debug__" : Str)) = false := by decide) (he : starEach (e :: es) X.env = (false, eval e X.env) :: starEach es X.env := by rfl) (hpl : (backTo pos (starEach es X.env)).any (·.1) = false := by rfl) :
    PE X (.Call (.Name x p) (e :: es) [] pos) (tMake C sp dvs E0 t) := by
  obtain ⟨f, fd, ps, ds, M, F, hm, b, d⟩ := c.ex
  exact pe_make M F (hr.mono hk) hg hm b d passL ha hdb he hpl
end

/-! ### rules for several kinds of values at once -/
section
variable {X : Cx} {k : Nat}
def rAddS : R2 := fun x y H Q => ∃ i j, x = .str i ∧ y = .str j ∧ i.length + j.length ≤ sizeLine ∧ Q (.str (i ++ j)) H
def rAddU (K : PySem.W.Frag) : R2 := fun x y H Q => rI0 (fun i j => .int (i + j)) x y H Q ∨ (rAddS x y H Q ∨ (rCat x y H Q ∨ rCatA K x y H Q))
theorem op_addU : OpR X (binaryOp .Add) (rAddU X.K) := op_add.or (op_add_str.or (op_cat.or op_catA))
def rEqU (K : PySem.W.Frag) : R2 := fun x y H Q => rEq x y H Q ∨ rEqD K x y H Q
def rNeU (K : PySem.W.Frag) : R2 := fun x y H Q => rNe x y H Q ∨ rNeD K x y H Q
theorem op_eqU (hr : Room k X.A) : OpR X (compareOp .Eq) (rEqU X.K) := op_eq.or (op_eqD hr.units)
theorem op_neU (hr : Room k X.A) : OpR X (compareOp .NotEq) (rNeU X.K) := op_ne.or (op_neD hr.units)
def rIsiU (K : PySem.W.Frag) : List V → Hp → VK → Prop := fun xs H Q => rIsi K xs H Q ∨ rIsiT K xs H Q
theorem call_isiU : CallR X (.builtin "isinstance") (rIsiU X.K) := call_isi.or call_isiT
def rLenU (K : PySem.W.Frag) : List V → Hp → VK → Prop := fun xs H Q => ∃ x n, xs = [x] ∧ LenV K x H n ∧ Q (.int n) H
theorem call_lenU : CallR X (.builtin "len") (rLenU X.K) := call_len
def rIntU : List V → Hp → VK → Prop := fun xs H Q => (∃ i, xs = [.int i] ∧ Q (.int i) H) ∨ ∃ k, xs = [.bl k] ∧ Q (.int (if k then 1 else 0)) H
theorem call_intU : CallR X (.type "int") rIntU := call_int1
def rAbsU : List V → Hp → VK → Prop := fun xs H Q => ∃ i, xs = [.int i] ∧ Q (.int (if i < 0 then -i else i)) H
theorem call_absU : CallR X (.builtin "abs") rAbsU := call_abs
def rStrU : List V → Hp → VK → Prop := fun xs H Q => ∃ i, xs = [.int i] ∧ i.natAbs.log2 < 1920 ∧ Q (.str (toString i)) H
theorem call_strU : CallR X (.type "str") rStrU := call_str_int
def rMinU : List V → Hp → VK → Prop := fun xs H Q => ∃ i j, xs = [.int i, .int j] ∧ Q (.int (if j < i then j else i)) H
theorem call_minU (hc : X.calm = true) : CallR X (.builtin "min") rMinU := call_min2 hc
def rMaxU : List V → Hp → VK → Prop := fun xs H Q => ∃ i j, xs = [.int i, .int j] ∧ Q (.int (if j > i then j else i)) H
theorem call_maxU (hc : X.calm = true) : CallR X (.builtin "max") rMaxU := call_max2 hc
def rListU (K : PySem.W.Frag) : List V → Hp → VK → Prop := fun xs H Q => ∃ p ys, xs = [.ref p] ∧ (SqL K H p ys ∨ SqT K H p ys) ∧ ∀ l, H l = none → Q (.ref l) (upd H l (.lst ys))
theorem call_listU : CallR X (.type "list") (rListU X.K) := call_list_of
def rTupleU (K : PySem.W.Frag) : List V → Hp → VK → Prop := fun xs H Q => ∃ p ys, xs = [.ref p] ∧ ((SqL K H p ys ∧ ∀ l, H l = none → Q (.ref l) (upd H l (.tup ys))) ∨ (SqT K H p ys ∧ Q (.ref p) H))
theorem call_tupleU : CallR X (.type "tuple") (rTupleU X.K) := call_tuple_of
def rSplit : V → List V → Hp → VK → Prop := fun x xs H Q => ∃ a b, x = .str a ∧ xs = [.str b] ∧ (b.length == 0) = false ∧ a.length + 2 ≤ sizeLine ∧ rNewStrs (Txt.split a b) H Q
def rJoin (K : PySem.W.Frag) : V → List V → Hp → VK → Prop := fun x xs H Q => ∃ a p, ∃ ys : List Str, x = .str a ∧ xs = [.ref p] ∧ (SqL K H p (ys.map V.str) ∨ SqT K H p (ys.map V.str)) ∧ (ys.map (·.length)).sum + ys.length * a.length ≤ 16777216 ∧ Q (.str (Txt.join a ys)) H
theorem psplit {o e : Expr} {to te : TE} {apos pos : Pos} (ho : PE X o to) (he : PE X e te) (hs : starEach [e] X.env = [(false, eval e X.env)] := by rfl) (hbase : attributeBase o "split" X.env (eval o X.env) = eval o X.env := by rfl) (hline : (apos.endLine == pos.line) = true := by rfl) :
    PE X (.Call (.Attribute o "split" apos) [e] [] pos) (tM1 rSplit to te) := pe_split ho he hs hbase hline
theorem pjoin {o e : Expr} {to te : TE} {apos pos : Pos} (ho : PE X o to) (he : PE X e te) (hs : starEach [e] X.env = [(false, eval e X.env)] := by rfl) (hbase : attributeBase o "join" X.env (eval o X.env) = eval o X.env := by rfl) (hline : (apos.endLine == pos.line) = true := by rfl) :
    PE X (.Call (.Attribute o "join" apos) [e] [] pos) (tM1 (rJoin X.K) to te) := pe_join ho he hs hbase hline
theorem slr_or {r r' : V → Option Int → Option Int → Hp → VK → Prop} (h : SlR X r) (h' : SlR X r') : SlR X (fun x lo hi H Q => r x lo hi H Q ∨ r' x lo hi H Q) := h.or h'
def rSlU (K : PySem.W.Frag) : V → Option Int → Option Int → Hp → VK → Prop := fun x lo hi H Q => rSlL K x lo hi H Q ∨ (rSlA K x lo hi H Q ∨ C8.rSlX x lo hi H Q)
theorem sl_U : SlR X (rSlU X.K) := sl_list.or (sl_tupA.or C8.sl_txt)
def rInU (K : PySem.W.Frag) : R2 := rIn K false
theorem op_inU : OpR X (compareOp .In) (rInU X.K) := op_in_seq
def rNinU (K : PySem.W.Frag) : R2 := rIn K true
theorem op_ninU : OpR X (compareOp .NotIn) (rNinU X.K) := op_notIn_seq
theorem pi_or {tg l : Expr} {w1 w2 : TI} (h : PI X tg l w1) (h' : PI X tg l w2) : PI X tg l (fun σ H R => w1 σ H R ∨ w2 σ H R) :=
  ⟨fun pins s σ H R I q => q.elim (h.run pins s σ H R I) (h'.run pins s σ H R I)⟩
def iSeq (K : PySem.W.Frag) (tl : TE) : TI := fun σ H R => iList K tl σ H R ∨ iTup K tl σ H R
theorem pi_seq {tg l : Expr} {tl : TE} (hl : PE X l tl) : PI X tg l (iSeq X.K tl) := pi_or (pi_list hl) (pi_tup hl)
theorem pg_or {tg : Expr} {g g' : TG} (h : PG X tg g) (h' : PG X tg g') : PG X tg (fun v σ H Q => g v σ H Q ∨ g' v σ H Q) :=
  ⟨fun pins s σ H v u Q I r q => q.elim (h.run pins s σ H v u Q I r) (h'.run pins s σ H v u Q I r)⟩
end
section
variable {σ : L2.St} {H : Hp} {Q : VK} {K : PySem.W.Frag}
theorem r_addI {i j : Int} (q : Q (.int (i + j)) H) : rAddU K (.int i) (.int j) H Q := .inl ⟨i, j, rfl, rfl, q⟩
theorem r_addS {i j : Str} (h : i.length + j.length ≤ sizeLine) (q : Q (.str (i ++ j)) H) : rAddU K (.str i) (.str j) H Q := .inr (.inl ⟨i, j, rfl, rfl, h, q⟩)
theorem r_addL {a b : Addr} {xs ys : List V} (ha : H a = some (.lst xs)) (hb : H b = some (.lst ys)) (h : xs.length + ys.length ≤ sizeLine) (q : ∀ p, H p = none → Q (.ref p) (upd H p (.lst (xs ++ ys)))) : rAddU K (.ref a) (.ref b) H Q :=
  .inr (.inr (.inl ⟨a, b, xs, ys, rfl, rfl, ha, hb, h, q⟩))
theorem r_eqS {x y : V} (s : scal x y = true) (q : Q (.bl (decide (x = y))) H) : rEqU K x y H Q := .inl ⟨s, q⟩
theorem r_neS {x y : V} (s : scal x y = true) (q : Q (.bl (!decide (x = y))) H) : rNeU K x y H Q := .inl ⟨s, q⟩
theorem vint_dec {i j : Int} : decide (V.int i = V.int j) = decide (i = j) := by
  by_cases h : i = j
  · rw [h]; simp
  · rw [decide_eq_false h, decide_eq_false (fun e => h (V.int.inj e))]
theorem vstr_dec {i j : Str} : decide (V.str i = V.str j) = decide (i = j) := by
  by_cases h : i = j
  · rw [h]; simp
  · rw [decide_eq_false h, decide_eq_false (fun e => h (V.str.inj e))]
theorem r_eqI {i j : Int} (q : Q (.bl (decide (i = j))) H) : rEqU K (.int i) (.int j) H Q := r_eqS rfl (by rw [vint_dec]; exact q)
theorem r_neI {i j : Int} (q : Q (.bl (!decide (i = j))) H) : rNeU K (.int i) (.int j) H Q := r_neS rfl (by rw [vint_dec]; exact q)
theorem r_eqT {i j : Str} (q : Q (.bl (decide (i = j))) H) : rEqU K (.str i) (.str j) H Q := r_eqS rfl (by rw [vstr_dec]; exact q)
theorem r_neT {i j : Str} (q : Q (.bl (!decide (i = j))) H) : rNeU K (.str i) (.str j) H Q := r_neS rfl (by rw [vstr_dec]; exact q)
theorem r_eqD {x y : V} {d e : PyData} (hd : Dp K H x d) (he : Dp K H y e) (sd : SeqAt.shaped d = true) (se : SeqAt.shaped e = true) (q : Q (.bl (PyData.eqv d e)) H) : rEqU K x y H Q := .inr ⟨d, e, hd, he, sd, se, q⟩
theorem r_neD {x y : V} {d e : PyData} (hd : Dp K H x d) (he : Dp K H y e) (sd : SeqAt.shaped d = true) (se : SeqAt.shaped e = true) (q : Q (.bl (!PyData.eqv d e)) H) : rNeU K x y H Q := .inr ⟨d, e, hd, he, sd, se, q⟩
/-- isinstance -/
theorem r_isi {x : V} {n T : String} {b : Bool} (ty : TyX K H x (.type n)) (e : kitB n T = some b) (q : Q (.bl b) H) : rIsiU K [x, .ty T] H Q :=
  .inl ⟨x, .ty T, .type n, .type T, b, rfl, .ty T, ty, kit_ty e, q⟩
theorem r_isiC {x : V} {t : Value} {C : Addr} {b : Bool} (ty : TyX K H x t) (e : PySem.W.kitOne K t (.ref C) = some b) (q : Q (.bl b) H) : rIsiU K [x, .ref C] H Q :=
  .inl ⟨x, .ref C, t, .ref C, b, rfl, .own C, ty, e, q⟩
theorem r_isi2 {x : V} {n T1 T2 : String} {b1 b2 : Bool} {p : Addr} (hp : H p = some (.tup [.ty T1, .ty T2])) (ty : TyX K H x (.type n)) (e1 : kitB n T1 = some b1) (e2 : kitB n T2 = some b2) (q : Q (.bl (b1 || b2)) H) : rIsiU K [x, .ref p] H Q := by
  refine .inr ⟨x, p, _, .type n, [.type T1, .type T2], b1 || b2, rfl, hp, .cons (.ty T1) (.cons (.ty T2) .nil), ty, ?_, q⟩
  refine kitAny_cons (kit_ty e1) (fun h => ?_) (fun h => by rw [h]; rfl)
  refine kitAny_cons (kit_ty e2) (fun h2 => ?_) (fun h2 => by rw [h2, Bool.or_true])
  rw [h, h2]
  exact kitAny_nil
/-- len -/
theorem r_lenL {p : Addr} {xs : List V} (h : SqL K H p xs) (q : Q (.int xs.length) H) : rLenU K [.ref p] H Q := ⟨_, _, rfl, .inl ⟨xs, h, rfl⟩, q⟩
theorem r_lenT {p : Addr} {xs : List V} (h : SqT K H p xs) (q : Q (.int xs.length) H) : rLenU K [.ref p] H Q := ⟨_, _, rfl, .inr ⟨xs, h, rfl⟩, q⟩
theorem r_lenS {z : Str} (h : z.length ≤ sizeLine) (q : Q (.int z.length) H) : rLenU K [.str z] H Q := ⟨_, _, rfl, ⟨h, rfl⟩, q⟩
/-- [i] -/
theorem r_ixL {p : Addr} {xs : List V} {i : Int} {v : V} (h : SqL K H p xs) (a : atI xs i = some v) (q : Q v H) : rIx K (.ref p) (.int i) H Q := .inl ⟨p, xs, i, v, rfl, rfl, h, a, q⟩
theorem r_ixT {p : Addr} {xs : List V} {i : Int} {v : V} (h : SqT K H p xs) (a : atI xs i = some v) (q : Q v H) : rIx K (.ref p) (.int i) H Q := .inr (.inl ⟨p, xs, i, v, rfl, rfl, h, a, q⟩)
/-- a sequence of either kind -/
def Sq (K : PySem.W.Frag) (H : Hp) (a : Addr) (xs : List V) : Prop := SqL K H a xs ∨ SqT K H a xs
theorem r_lenQ {p : Addr} {xs : List V} (h : Sq K H p xs) (q : Q (.int xs.length) H) : rLenU K [.ref p] H Q := h.elim (fun h => r_lenL h q) fun h => r_lenT h q
theorem r_ixQ {p : Addr} {xs : List V} {i : Int} {v : V} (h : Sq K H p xs) (a : atI xs i = some v) (q : Q v H) : rIx K (.ref p) (.int i) H Q := h.elim (fun h => r_ixL h a q) fun h => r_ixT h a q
/-- slices -/
theorem r_slL {p : Addr} {xs : List V} {lo hi : Option Int} (h : SqL K H p xs) (q : ∀ l, H l = none → Q (.ref l) (upd H l (.lst (cutV xs lo hi)))) : rSlU K (.ref p) lo hi H Q := .inl ⟨p, xs, rfl, h, q⟩
theorem r_slS {z : Str} {lo hi : Option Int} (h : z.length ≤ sizeLine) (q : Q (.str (Txt.slice z lo hi)) H) : rSlU K (.str z) lo hi H Q := .inr (.inr ⟨z, rfl, h, q⟩)
/-- in -/
theorem r_in {p : Addr} {xs : List V} {x : V} (h : Sq K H p xs) (fx : flatV x = true) (fa : xs.all flatV = true) (q : Q (.bl (inV x xs)) H) : rInU K x (.ref p) H Q := ⟨p, xs, rfl, h, fx, fa, q⟩
/-- list(..), tuple(..) -/
theorem r_list {p : Addr} {ys : List V} (h : Sq K H p ys) (q : ∀ l, H l = none → Q (.ref l) (upd H l (.lst ys))) : rListU K [.ref p] H Q := ⟨p, ys, rfl, h, q⟩
theorem r_tupL {p : Addr} {ys : List V} (h : SqL K H p ys) (q : ∀ l, H l = none → Q (.ref l) (upd H l (.tup ys))) : rTupleU K [.ref p] H Q := ⟨p, ys, rfl, .inl ⟨h, q⟩⟩
theorem r_tupT {p : Addr} {ys : List V} (h : SqT K H p ys) (q : Q (.ref p) H) : rTupleU K [.ref p] H Q := ⟨p, ys, rfl, .inr ⟨h, q⟩⟩
theorem r_intc {i : Int} (q : Q (.int i) H) : rIntU [.int i] H Q := .inl ⟨i, rfl, q⟩
theorem r_abs {i : Int} (q : Q (.int (if i < 0 then -i else i)) H) : rAbsU [.int i] H Q := ⟨i, rfl, q⟩
theorem r_str {i : Int} (h : i.natAbs.log2 < 1920) (q : Q (.str (toString i)) H) : rStrU [.int i] H Q := ⟨i, rfl, h, q⟩
theorem r_all {a : Addr} {bs : List Bool} (h : SqL K H a (bs.map V.bl)) (q : Q (.bl (bs.all id)) H) : rAll K [.ref a] H Q := ⟨a, bs, rfl, h, q⟩
theorem r_setL {p : Addr} {xs : List V} {k : Int} {j : Nat} {v : V} {R : Hp → Prop} (h : H p = some (.lst xs)) (e : ixN xs.length k = some j) (q : R (upd H p (.lst (xs.set j v)))) : rSetL (.ref p) (.int k) v H R := ⟨p, xs, k, j, rfl, rfl, h, e, q⟩
theorem r_gsub {to ti : TE} {t : TSet} {v : V} {N : L2.St → Hp → Prop} (q : to σ H fun o H1 => ti σ H1 fun i H2 => t o i v H2 fun H3 => N σ H3) : gSub to ti t v σ H N := q
theorem r_app {l : Addr} {xs : List V} {y : V} (h : H l = some (.lst xs)) (z : xs.length < sizeLine) (q : Q .non (upd H l (.lst (xs ++ [y])))) : rAppend (.ref l) [y] H Q := ⟨l, xs, y, rfl, rfl, h, z, q⟩
theorem r_tyL {l : Addr} {xs : List V} {R : Prop} (h : H l = some (.lst xs)) (q : R) : tyV K "list" (.ref l) H ∧ R := ⟨.inl ⟨rfl, xs, SqL.of h⟩, q⟩
end
section
variable {H : Hp} {Q : VK} {K : PySem.W.Frag}
theorem r_split {a b : Str} (hb : (b.length == 0) = false) (h : a.length + 2 ≤ sizeLine) (q : ∀ p, H p = none → Q (.ref p) (upd H p (.lst ((Txt.split a b).map V.str)))) : (∃ z, V.str a = .str z) ∧ rSplit (.str a) [.str b] H Q := ⟨⟨a, rfl⟩, a, b, rfl, rfl, hb, h, q⟩
theorem r_join {a : Str} {p : Addr} {ys : List Str} (h : Sq K H p (ys.map V.str)) (z : (ys.map (·.length)).sum + ys.length * a.length ≤ 16777216) (q : Q (.str (Txt.join a ys)) H) : rJoin K (.str a) [.ref p] H Q := ⟨a, p, ys, rfl, rfl, h, z, q⟩
theorem r_min {i j : Int} (q : Q (.int (if j < i then j else i)) H) : rMinU [.int i, .int j] H Q := ⟨i, j, rfl, q⟩
theorem r_max {i j : Int} (q : Q (.int (if j > i then j else i)) H) : rMaxU [.int i, .int j] H Q := ⟨i, j, rfl, q⟩
theorem r_strI {x : Str} {R : Prop} (q : R) : (∃ a, V.str x = .str a) ∧ R := ⟨⟨x, rfl⟩, q⟩
end
/-! ### heaps that grow -/
theorem Sq.same {K : PySem.W.Frag} {H H' : Hp} {a : Addr} {xs : List V} (e : Same H H') (h : Sq K H a xs) : Sq K H' a xs := h.elim (fun h => .inl (SqL.ext h e)) fun h => .inr (SqT.ext h e)
theorem same_upd {H : Hp} {p : Addr} {o : HO} (h : H p = none) : Same H (upd H p o) := Ext.upd h
theorem Same.upd {H H1 : Hp} {p : Addr} {o : HO} (s : Same H H1) (h : H p = none) : Same H (L2.upd H1 p o) := fun b u e => by
  rw [upd_ne (ne_of_none e h)]; exact s b u e
mutual
theorem Dp.same {K : PySem.W.Frag} {H H' : Hp} (s : Same H H') : ∀ {v : V} {d : PyData}, Dp K H v d → Dp K H' v d
  | _, _, .non => .non
  | _, _, .bl b => .bl b
  | _, _, .int i => .int i
  | _, _, .str x => .str x
  | _, _, .lst h a => .lst (SqL.ext h s) (DpAll.same s a)
  | _, _, .tup h a => .tup (SqT.ext h s) (DpAll.same s a)
theorem DpAll.same {K : PySem.W.Frag} {H H' : Hp} (s : Same H H') : ∀ {vs : List V} {ds : List PyData}, DpAll K H vs ds → DpAll K H' vs ds
  | _, _, .nil => .nil
  | _, _, .cons a b => .cons (Dp.same s a) (DpAll.same s b)
end
theorem dpAll_ints {K : PySem.W.Frag} {H : Hp} : ∀ ns : List Int, DpAll K H (ns.map V.int) (ns.map PyData.int)
  | [] => .nil
  | n :: ns => .cons (.int n) (dpAll_ints ns)
end Pg

namespace Pg
open PySem PySem.Spec PyProof.Rows L2
section
variable {prog : Program} {w : World} {A : Around} {E : Value → Shared → Prop} {s : Shared} {K : PySem.W.Frag} {x C f : Addr} {ox : Obj} {od : Option Obj} {b tb : Value}
/-- a special name that the class takes over from object -/
theorem taken_over {M : Model} {name : Str} {id : String} {args : List Value} {Q : Option Value → Shared → Prop} (X : K.In s.heap) (I : PySem.W.InstAt s.heap x ox C od)
    (hs : PySem.W.findIn K (.ref C) name = some (some (.builtin id))) (hb : bindSpecial (.builtin id) (.ref x) = pure (.builtin id, [.ref x]))
    (h : wpAny M A (call (.builtin id) (.ref x :: args)) (fun v => Q (some v)) E s) : wpAny M A (callSpecialIfBound? (.ref x) name args) Q E s := by
  simp only [callSpecialIfBound?, bindSpecialIfBound?]
  refine wpAny_holding (wpAny_bind (wpAny_bind (wpAny_bind (I.type.here ((PySem.W.looks_findIn X hs).here ?_)))))
  simp only [hb]
  refine wpAny_bind (wpAny_askSetting (wpAny_ite ?_))
  have last : wpAny M A (call (.builtin id) ([.ref x] ++ args) >>= fun r => pure (some r)) Q E s := wpAny_bind (wpAny_mono h (fun _ _ q => wpAny_pure q) fun _ _ q => q)
  split
  · exact wpAny_bind (wpAny_pure (wpAny_pure last))
  · exact wpAny_tryCatch (wpAny_bind (wpAny_pure (wpAny_pure last)))
/-- object.__ne__ over the class's own == -/
theorem ne_body (X : K.In s.heap) (I : PySem.W.InstAt s.heap x ox C od) (hu : A.units < cLine) (hs : PySem.W.findIn K (.ref C) "__eq__" = some (some (.ref f))) (hf : PySem.W.isFn K (.ref f) = true) {Q : Fin → Shared → Prop}
    (h : wpAny (model prog w) A (call (.ref f) [.ref x, b]) (fun v s' => ∃ c, v = .bool c ∧ Q (.done (.ret (.bool (!c)))) s') E s) :
    wpAny (model prog w) A (Builtin.«object.__ne__» ⟨[.ref x, b], []⟩) Q E s := by
  have asked : wpAny (model prog w) A (callSpecialIfBound? (.ref x) (Str.ofString "__eq__") [b]) (fun o s' => ∃ c, o = some (.bool c) ∧ Q (.done (.ret (.bool (!c)))) s') E s :=
    PySem.W.ifBound_K X I hs hf (wpAny_mono h (fun v s' ⟨c, e, q⟩ => ⟨c, by rw [e], q⟩) fun _ _ q => q)
  unfold Builtin.«object.__ne__»
  repeat (first
    | (with_reducible refine wpAny_cRoomFor hu ?_)
    | (refine wpAny_bind (m := callSpecialIfBound? (.ref x) (Str.ofString "__eq__") [b]) (wpAny_mono asked (fun o s' ho => by
        obtain ⟨c, rfl, q⟩ := ho
        repeat (first | exact q | exact wpAny_pure q | exact wpAny_truthy_bool q | (refine wpAny_bind (m := truthy (.bool _)) (wpAny_truthy_bool ?_)) | wp_step)) fun _ _ q => q))
    | wp_step)
theorem ne_own (X : K.In s.heap) (I : PySem.W.InstAt s.heap x ox C od) (hu : A.units + 1 < cLine) (ht : PySem.W.Looks (model prog w) s.heap (typeOf b) tb) (hn : PySem.W.notFirst K C tb = true)
    (hne : PySem.W.findIn K (.ref C) "__ne__" = some (some (.builtin "object.__ne__"))) (hm : PySem.W.mroIn K C (.type "object") = some true)
    (hs : PySem.W.findIn K (.ref C) "__eq__" = some (some (.ref f))) (hf : PySem.W.isFn K (.ref f) = true) {Q : Value → Shared → Prop}
    (h : wpAny (model prog w) A.in1 (call (.ref f) [.ref x, b]) (fun v s' => ∃ c, v = .bool c ∧ Q (.bool (!c)) s') E s) : wpAny (model prog w) A (richCompare .NotEq (.ref x) b) Q E s := by
  have isa : PySem.W.Looks (model prog w) s.heap (isInstance (.ref x) (.type "object")) true := I.type.andThen (PySem.W.looks_mroIn X hm)
  have asked : wpAny (model prog w) A (tryCompare (.ref x) (cmpInfo .NotEq).2.1 b) (fun r s' => ∃ v, r = some v ∧ Q v s') E s := by
    unfold tryCompare
    refine wpAny_bind (taken_over X I hne (PySem.F.slot_tuple_iterator_ne.bind _) (wpAny_call (codeAny_call_builtin PySem.F.slot_tuple_iterator_ne.plain PySem.F.cmpEntry_ne
      (PySem.W.check_slot PySem.F.cmpKind_ne PySem.F.cmpSplit_ne isa (PySem.F.cmpArgs_ne _ _) (ne_body (A := A.in1) X I hu hs hf (wpAny_mono h (fun v s' hv => ?_) fun _ _ q => q))))))
    obtain ⟨c, e, q⟩ := hv
    exact ⟨c, e, wpAny_pure ⟨_, rfl, q⟩⟩
  unfold richCompare
  simp only [oneThing_ref]
  refine wpAny_holding (wpAny_bind (wpAny_cRoomFor (by omega) ?_))
  refine wpAny_bind (I.type.here (wpAny_bind (ht.here ?_)))
  split
  · rename_i q
    have e : PySem.W.subIn K tb (.ref C) = some false := by
      rcases Bool.or_eq_true_iff.mp hn with e | e
      · rw [beq_iff_eq.mp e] at q; simp at q
      · exact beq_iff_eq.mp e
    refine wpAny_bind ((PySem.W.looks_subIn X e).here ?_)
    simp only [Bool.false_eq_true, if_false]
    refine wpAny_bind (wpAny_mono asked (fun r s' z => ?_) fun _ _ e => e)
    obtain ⟨v, rfl, hq⟩ := z
    exact wpAny_pure hq
  · refine wpAny_bind (wpAny_pure ?_)
    simp only [Bool.false_eq_true, if_false]
    refine wpAny_bind (wpAny_mono asked (fun r s' z => ?_) fun _ _ e => e)
    obtain ⟨v, rfl, hq⟩ := z
    exact wpAny_pure hq
end
end Pg
namespace Pg
open PySem PySem.Spec PyProof.Rows L2
/-- the class at C has its own ==, != is object's -/
structure EqOf (P : Program) (w : World) (K : PySem.W.Frag) (mg : Str → Option Value) (base : Heap) (k : Nat) (C : Addr) (sp : Sp) : Prop where
  ex : ∃ (f : Addr) (fd : FuncData) (ps : List Str), FnOk P w K mg base (L2.CX P w) k f fd ps sp ∧ PySem.W.findIn K (.ref C) "__eq__" = some (some (.ref f)) ∧ PySem.W.isFn K (.ref f) = true ∧ Binds K fd ps []
  ne : PySem.W.findIn K (.ref C) "__ne__" = some (some (.builtin "object.__ne__"))
  mr : PySem.W.mroIn K C (.type "object") = some true
/-- x == y, x an instance of the class at C -/
def rOwnE (K : PySem.W.Frag) (C : Addr) (sp : Sp) : R2 := fun x y H Q => ∃ a dx fs tb, x = .ref a ∧ H a = some (.ins C dx fs) ∧ TyX K H y tb ∧ PySem.W.notFirst K C tb = true ∧ sp [x, y] H Q E0
def rOwnN (K : PySem.W.Frag) (C : Addr) (sp : Sp) : R2 := fun x y H Q => ∃ a dx fs tb, x = .ref a ∧ H a = some (.ins C dx fs) ∧ TyX K H y tb ∧ PySem.W.notFirst K C tb = true ∧ sp [x, y] H (fun z H' => ∃ c, z = .bl c ∧ Q (.bl (!c)) H') E0
section
variable {X : Cx} {k : Nat} {C : Addr} {sp : Sp}
/-- the own == called anywhere below the running body -/
theorem own_run {A : Around} {pins : List (Addr × Obj)} {σ : L2.St} {H : Hp} {s : Shared} {f : Addr} {fd : FuncData} {ps : List Str} {vs : List V} {us : List Value} {Q : VK} (F : FnOk X.prog X.w X.K X.mg X.base (L2.CX X.prog X.w) k f fd ps sp) (hb : Binds X.K fd ps [])
    (hr : Room k A) (hA : A.frames = X.A.frames) (I : Inv X pins σ H s) (r : Vals vs us) (q : sp vs H Q E0) : wpAny (model X.prog X.w) A (call (.ref f) us) (EP X pins σ Q) X.xe s := by
  have e0 : Env0 X.prog X.w X.K X.mg X.base A X.stack s H := by
    have z := I.env0
    exact ⟨by rw [hA]; exact z.frames, z.mod, z.bs, z.bsz, z.funs, z.frf, z.hok, z.bare⟩
  have hl : us.length = ps.length := r.length.symm.trans (F.len _ _ _ _ q)
  have bd := hb s us I.kIn (by simpa using hl)
  refine wpAny_call (codeAny_mono (F.run A X.stack s H ⟨us, []⟩ us vs Q E0 hr e0 (by simpa using bd) r q) fun o s' ho => ?_)
  rcases o with e | fl
  · exact passL pins σ H s e s' I ho
  · cases fl with
    | ret u => exact I.after ho
    | next => exact False.elim ho
    | brk => exact False.elim ho
    | cont => exact False.elim ho
theorem op_eqO (e : EqOf X.prog X.w X.K X.mg X.base k C sp) (hr : Room k X.A) : OpR X (compareOp .Eq) (rOwnE X.K C sp) := by
  intro pins s σ H x y v u Q I rx ry h
  obtain ⟨a, dx, fs, tb, rfl, ha, ty, hn, q⟩ := h
  obtain ⟨⟨f, fd, ps, F, hs, hf, hb⟩, _, _⟩ := e
  cases (show v = Value.ref a from rx)
  obtain ⟨_, Z, z, _⟩ := kit_of I ry ty
  obtain ⟨_, J, _⟩ := ins_get I.hok ha
  obtain ⟨_, J, _⟩ := J.look
  obtain ⟨_, fr⟩ := I.fr
  refine PySem.W.cmp_K (op := .Eq) hr.units0 fr I.ok.mod.kin J (Z.ty _ _ I.kIn z) hn hs hf (wpAny_mono (own_run F hb hr rfl I (.cons rx (.cons ry .nil)) q) (fun r s' hq => ?_) fun _ _ t => t)
  obtain ⟨zv, H', I', rz, qz⟩ := hq
  exact SlX.cmpback rz ⟨zv, H', I', rz, qz⟩
theorem op_neO (e : EqOf X.prog X.w X.K X.mg X.base k C sp) (hr : Room (k + 1) X.A) : OpR X (compareOp .NotEq) (rOwnN X.K C sp) := by
  intro pins s σ H x y v u Q I rx ry h
  obtain ⟨a, dx, fs, tb, rfl, ha, ty, hn, q⟩ := h
  obtain ⟨⟨f, fd, ps, F, hs, hf, hb⟩, hne, hmr⟩ := e
  cases (show v = Value.ref a from rx)
  obtain ⟨_, Z, z, _⟩ := kit_of I ry ty
  obtain ⟨_, J, _⟩ := ins_get I.hok ha
  obtain ⟨_, J, _⟩ := J.look
  have hu := hr.units
  refine ne_own I.kIn J (by omega) (Z.ty _ _ I.kIn z) hn hne hmr hs hf (wpAny_mono (own_run F hb hr.in1 rfl I (.cons rx (.cons ry .nil)) q) (fun r s' hq => ?_) fun _ _ t => t)
  obtain ⟨zv, H', I', rz, c, ez, qz⟩ := hq
  subst ez
  exact ⟨c, rz, .bl (!c), H', I', rfl, qz⟩
end
end Pg

namespace Pg
open PySem PySem.SeqAt
open AutoSeq1 (wpAny_loadPart')
open MeetsSeq MeetsSeq2 MeetsSeq3 SeqRoads2
section
variable {prog : Program} {w : World} {A : Around} {R : Result → Shared → Prop}
/-- x in a list, item by item, the heap may change between -/
theorem has_loop {l : Addr} {x : Value} (N : Nat) (J : Nat → Shared → Prop)
    (turn : ∀ i s, J i s → ∃ (its : Array Value) (n : Nat), s.heap.get? l = some { cls := .type "list", data := .seq its n } ∧ its.size = N ∧
      ∀ h : i < its.size, wpAny (model prog w) A.in1 (eqBool its[i] x) (fun r s' => if r = true then R (.ok (.ret (.bool true))) s' else J (i + 1) s') (fun e s' => R (.error e) s') s)
    (last : ∀ s, J N s → R (.ok (.ret (.bool false))) s) (k : Nat) :
    ∀ i : Nat, N - i = k → i ≤ N → ∀ s, J i s → wpAny (model prog w) A.in1 (Builtin.«list.__contains__.loop» ⟨[.ref l, x, rawInt i], []⟩) (GQ.FinOf prog w A R) (fun e s' => R (.error e) s') s := by
  induction k with
  | zero =>
    intro i ki iN s j
    obtain ⟨its, n, here, size, _⟩ := turn i s j
    obtain rfl : i = N := by omega
    have out := last s j
    obtain ⟨hp, g, d, tk, os⟩ := s
    wp_walk using wpAny_loadPart' here
    have none_there : its[((i : Nat) : Int).toNat]? = none := by simp; omega
    rw [none_there]
    wp_walk
    exact out
  | succ k ih =>
    intro i ki iN s j
    obtain ⟨its, n, here, size, step⟩ := turn i s j
    have lt : i < its.size := by omega
    have one := step lt
    obtain ⟨hp, g, d, tk, os⟩ := s
    wp_walk using wpAny_loadPart' here
    have there : its[((i : Nat) : Int).toNat]? = some its[i] := by simp [lt]
    rw [there]
    refine wpAny_bind (wpAny_mono one (fun r s' q => ?_) fun _ _ z => z)
    cases r with
    | true =>
      have q' : R (.ok (.ret (.bool true))) s' := q
      wp_walk
      exact q'
    | false =>
      have q' : J (i + 1) s' := q
      have up : ((i : Int) + 1) = ((i + 1 : Nat) : Int) := by push_cast; rfl
      wp_walk
      rw [up]
      refine ⟨plainId_quiet plain_contains_loop _, codeAny_builtin entry_contains_loop ?_⟩
      rw [Around.under_plainId plain_contains_loop _]
      exact ih (i + 1) (by omega) (by omega) s' q'
theorem has_list {l : Addr} {x : Value} {E : Value → Shared → Prop} {Q : Value → Shared → Prop} {s : Shared} (N : Nat) (J : Nat → Shared → Prop)
    (turn : ∀ i s, J i s → ∃ (its : Array Value) (n : Nat), s.heap.get? l = some { cls := .type "list", data := .seq its n } ∧ its.size = N ∧
      ∀ h : i < its.size, wpAny (model prog w) A.in1 (eqBool its[i] x) (fun r s' => if r = true then Q (.bool true) s' else J (i + 1) s') E s)
    (last : ∀ s, J N s → Q (.bool false) s) (start : J 0 s) : wpAny (model prog w) A (compareOp .In x (.ref l)) Q E s := by
  obtain ⟨its, n, here, _, _⟩ := turn 0 s start
  have ty : s.TypeIs (.ref l) "list" := ⟨_, here, rfl⟩
  show wpAny _ A (do return .bool (← contains (.ref l) x)) Q E s
  refine wpAny_bind (wpAny_contains_slot ty F.slot_list_contains (GQ.call_here F.slot_list_contains ty F.entry_list_contains (F.args_list_contains_2 _ _) ?_))
  have go := has_loop (prog := prog) (w := w) (A := A) (R := wants (fun v s' => wpAny (model prog w) A (truthy v) (fun b s'' => wpAny (model prog w) A (pure (Value.bool b)) Q E s'') E s') E) (l := l) (x := x) N J (fun i s j => by
    obtain ⟨its, n, h1, h2, h3⟩ := turn i s j
    refine ⟨its, n, h1, h2, fun h => wpAny_mono (h3 h) (fun r s' q => ?_) fun e s' z => z⟩
    cases r with
    | true => exact wpAny_truthy_bool (wpAny_pure q)
    | false => exact q) (fun s j => wpAny_truthy_bool (wpAny_pure (last s j))) N 0 (by omega) (by omega) s start
  obtain ⟨hp, g, d, tk, os⟩ := s
  wp_walk using wpAny_loadPart' here
  refine ⟨plainId_quiet plain_contains_loop _, codeAny_builtin entry_contains_loop ?_⟩
  rw [Around.under_plainId plain_contains_loop _]
  exact go
end
theorem int_declines (i : Int) (u : Tok) (x C dx : Addr) : 
    Meets (Builtin.«int.__eq__» ⟨[.int i u, .ref x], []⟩) (fun _ R s => s.heap.get? x = some (PySem.W.instObj C dx) ∧ R (.ok (.ret .notImplemented)) s) :=
  .of_wp fun prog w A R s h => by
    obtain ⟨hp, g, d, tk, os⟩ := s; obtain ⟨hl, h⟩ := h
    unfold PySem.W.instObj at hl
    wp_walk using wpAny_loadPart' hl, wpAny_load hl
    exact ⟨_, rfl, h⟩
section
variable {prog : Program} {w : World} {A : Around} {E : Value → Shared → Prop} {s : Shared} {K : PySem.W.Frag} {x C f dx : Addr} {ox : Obj} {od : Option Obj}
theorem eq_int_own (X : K.In s.heap) (I : PySem.W.InstAt s.heap x (PySem.W.instObj C dx) C od) (hu : A.units < cLine) (hsub : PySem.W.subIn K (.ref C) (.type "int") = some false)
    (hs : PySem.W.findIn K (.ref C) "__eq__" = some (some (.ref f))) (hf : PySem.W.isFn K (.ref f) = true) {i : Int} {t : Tok} {Q : Bool → Shared → Prop}
    (h : wpAny (model prog w) A (call (.ref f) [.ref x, .int i t]) (fun v s' => ∃ c, v = .bool c ∧ Q c s') E s) : wpAny (model prog w) A (eqBool (.int i t) (.ref x)) Q E s := by
  have here : s.heap.get? x = some (PySem.W.instObj C dx) := I.1
  have asked : wpAny (model prog w) A (tryCompare (.ref x) (cmpInfo .Eq).2.2 (.int i t)) (fun r s' => ∃ c, r = some (.bool c) ∧ Q c s') E s := by
    unfold tryCompare
    refine wpAny_bind (PySem.W.ifBound_K X I hs hf (wpAny_mono h (fun v s' q => ?_) fun _ _ q => q))
    obtain ⟨c, rfl, q⟩ := q
    exact wpAny_pure ⟨c, rfl, q⟩
  unfold eqBool
  refine wpAny_holding ?_
  refine wpAny_ite_split (fun z => by cases (beq_iff_eq.mp z)) (fun _ => ?_)
  refine wpAny_bind (m := richCompare .Eq (.int i t) (.ref x)) ?_
  unfold richCompare
  refine wpAny_holding (wpAny_bind (wpAny_cRoomFor hu ?_))
  simp only [(typeIs_int s i t).oneThing_none]
  refine wpAny_bind (wpAny_typeOf (typeIs_int s i t) (wpAny_bind (I.type.here ?_)))
  have ne : (Value.type "int" != Value.ref C) = true := by simp
  simp only [ne, if_true]
  refine wpAny_bind ((PySem.W.looks_subIn X hsub).here ?_)
  simp only [Bool.false_eq_true, if_false, Bool.not_false, if_true]
  refine wpAny_bind (m := tryCompare (.int i t) _ (.ref x)) (wpAny_tryCompare_declines (typeIs_int s i t) F.slot_int_eq (call_meets F.slot_int_eq (typeIs_int s i t) F.entry_int_eq (F.args_int_eq_2 _ _) (int_declines i t x C dx) ⟨here, rfl, ?_⟩))
  refine wpAny_bind (m := tryCompare (.ref x) _ (.int i t)) (wpAny_mono asked (fun r s' q => ?_) fun _ _ z => z)
  obtain ⟨c, rfl, q⟩ := q
  exact wpAny_pure (wpAny_truthy_bool q)
end
end Pg
namespace Pg
open PySem PySem.Spec PyProof.Rows L2
/-- x in [i, y]: x and y instances of a class with its own == -/
def rIn2 (C : Addr) (sp : Sp) : R2 := fun x y H Q => ∃ (a b l : Addr) (i : Int) (dx dy : Addr) (fs gs : List (Str × V)), x = .ref a ∧ y = .ref l ∧ H l = some (.lst [.int i, .ref b]) ∧ H a = some (.ins C dx fs) ∧ H b = some (.ins C dy gs) ∧
  sp [.ref a, .int i] H (fun z H1 => z = .bl false ∧ Same H H1 ∧ (a = b → Q (.bl true) H1) ∧ (a ≠ b → sp [.ref b, .ref a] H1 (fun z H2 => Same H1 H2 ∧ ∃ c, z = .bl c ∧ Q (.bl c) H2) E0)) E0
section
variable {X : Cx} {k : Nat} {C : Addr} {sp : Sp}
theorem op_in2 (e : EqOf X.prog X.w X.K X.mg X.base k C sp) (hsub : PySem.W.subIn X.K (.ref C) (.type "int") = some false) (hr : Room (k + 1) X.A) : OpR X (compareOp .In) (rIn2 C sp) := by
  intro pins s σ H x y v u Q I rx ry h
  obtain ⟨a, b, l, i, dx, dy, fs, gs, rfl, rfl, hl, ha, hb', q⟩ := h
  obtain ⟨⟨f, fd, ps, F, hs, hf, hb⟩, _, _⟩ := e
  cases (show v = Value.ref a from rx)
  cases (show u = Value.ref l from ry)
  have listed : ∀ {H1 : Hp} {s1 : Shared}, Inv X pins σ H1 s1 → Same H H1 → ∃ (t : Tok) (n : Nat), s1.heap.get? l = some { cls := .type "list", data := .seq (([.int i t, .ref b] : List Value).toArray) n } := fun {H1 s1} I1 s => by
    obtain ⟨_, its, n, r, h1⟩ := I1.hok l _ (s _ _ hl)
    obtain ⟨u1, u2, rfl, r1, r2⟩ := vals2 r
    obtain ⟨t, rfl⟩ := r1
    cases (show u2 = Value.ref b from r2)
    exact ⟨t, n, h1⟩
  refine has_list (N := 2) (fun j s1 => ∃ H1, Inv X pins σ H1 s1 ∧ Same H H1 ∧ ((j = 0 ∧ H1 = H) ∨ (j = 1 ∧ (a = b → Q (.bl true) H1) ∧ (a ≠ b → sp [.ref b, .ref a] H1 (fun z H2 => Same H1 H2 ∧ ∃ c, z = .bl c ∧ Q (.bl c) H2) E0)) ∨ (j = 2 ∧ Q (.bl false) H1)))
    ?_ ?_ ⟨H, I, Same.refl H, .inl ⟨rfl, rfl⟩⟩
  · rintro j s1 ⟨H1, I1, s01, alt⟩
    obtain ⟨t, n, h1⟩ := listed I1 s01
    refine ⟨_, n, h1, rfl, fun hj => ?_⟩
    rcases alt with ⟨rfl, rfl⟩ | ⟨rfl, qe, qn⟩ | ⟨rfl, _⟩
    · obtain ⟨_, J, _⟩ := ins_get I1.hok ha
      obtain ⟨_, J, _⟩ := J.look
      refine eq_int_own I1.kIn J (by have := hr.in1.units0; exact this) hsub hs hf (wpAny_mono (own_run F hb hr.in1 rfl I1 (.cons rx (.cons (show RelV (.int i) (.int i t) from ⟨t, rfl⟩) .nil)) q) (fun r s2 hq => ?_) fun _ _ z => z)
      obtain ⟨z, H2, I2, rz, ez, s12, qe, qn⟩ := hq
      subst ez
      exact ⟨false, rz, H2, I2, s12, .inr (.inl ⟨rfl, qe, qn⟩)⟩
    · by_cases eab : b = a
      · subst eab
        exact SeqAt.EqAt.same (A := X.A.in1) (s := s1) (.ref b) X.prog X.w X.xe _ ⟨.bl true, H1, I1, rfl, qe rfl⟩
      · have hb1 := s01 _ _ hb'
        have ha1 := s01 _ _ ha
        obtain ⟨_, J, _⟩ := ins_get I1.hok hb1
        obtain ⟨_, J, _⟩ := J.look
        obtain ⟨_, Ja, _⟩ := ins_get I1.hok ha1
        obtain ⟨_, Ja, _⟩ := Ja.look
        obtain ⟨_, fr⟩ := I1.fr
        refine GQ.eqBool_refG eab (PySem.W.cmp_K (op := .Eq) hr.in1.units0 fr I1.ok.mod.kin J Ja.type (by simp [PySem.W.notFirst]) hs hf (wpAny_mono (own_run F hb hr.in1 rfl I1 (.cons (show RelV (.ref b) (.ref b) from rfl) (.cons rx .nil)) (qn fun z => eab z.symm)) (fun r s2 hq => ?_) fun _ _ z => z))
        obtain ⟨z, H2, I2, rz, s12, c, ez, qc⟩ := hq
        subst ez
        cases (show r = Value.bool c from rz)
        refine ⟨c, rfl, ?_⟩
        cases c with
        | true => exact ⟨.bl true, H2, I2, rfl, qc⟩
        | false => exact ⟨H2, I2, s01.trans s12, .inr (.inr ⟨rfl, qc⟩)⟩
    · simp at hj
  · rintro s1 ⟨H1, I1, _, alt⟩
    rcases alt with ⟨z, _⟩ | ⟨z, _⟩ | ⟨_, qf⟩
    · omega
    · omega
    · exact ⟨.bl false, H1, I1, rfl, qf⟩
end
end Pg

namespace Pg
open PySem PySem.Spec PyProof.Rows L2
/-! ### comprehensions: what is made so far is Acc, over a heap that only grows but for the new list at D -/
/-- what a comprehension's reading asks behind its iterator -/
def LcAsk (J : It) (g : TG) (tt : TT) (te : TE) (vs : List Nat) (σ : L2.St) (H1 : Hp) (D : Addr) (Qd : Hp → Prop) : Prop :=
  ∃ W : Nat → Nat → Hp → Prop, (∃ m, W 0 m (upd H1 D (.lst []))) ∧ ∀ i m H, W i m H →
      (J.stop i H ∧ Qd H) ∨ (J.go i H ∧ ∃ Nx : Hp → Prop, (∀ H', Nx H' → ∃ m', m' < m ∧ W (i + 1) m' H') ∧ ∀ x H', J.yld i H x H' → g x (wipe σ vs) H' fun σ2 H2 => wipe σ2 vs = wipe σ vs ∧ tt σ2 H2 fun b H3 =>
        if b = true then te σ2 H3 fun y H4 => ∃ acc, H4 D = some (.lst acc) ∧ acc.length < sizeLine ∧ Nx (upd H4 D (.lst (acc ++ [y]))) else Nx H3)
theorem r_lc {wi : TI} {g : TG} {tt : TT} {te : TE} {vs : List Nat} {σ : L2.St} {H : Hp} {Q : VK} (q : wi σ H fun J H1 => ∀ D, H1 D = none → LcAsk J g tt te vs σ H1 D (fun H' => Q (.ref D) H')) : tLc wi g tt te vs σ H Q := q
section
variable {J : It} {n : Nat} {G : Hp → Prop} {Y : Nat → Hp → V → Hp → Prop} {g : TG} {tt : TT} {te : TE} {vs : List Nat} {σ : L2.St} {H1 : Hp} {D : Addr} {Qd : Hp → Prop}
theorem lc_acc (w : Walk J n G Y) (hD : H1 D = none) (hz : n ≤ 1000000) (hG : ∀ H', Same H1 H' → G H') (hY : ∀ i H x H', Y i H x H' → Same H H')
    (Acc : Nat → List V → Hp → Prop) (m1 : ∀ i ys Ha Hb, Same Ha Hb → Acc i ys Ha → Acc i ys Hb) (m2 : ∀ i ys Ha us zs, Ha D = some (.lst us) → Acc i ys Ha → Acc i ys (upd Ha D (.lst zs)))
    (h0 : ∀ H', Same H1 H' → Acc 0 [] H')
    (step : ∀ i x ys H' H'', i < n → Same H1 H' → H' D = some (.lst ys) → Acc i ys H' → Y i H' x H'' → ∀ (N1 : VK) (N0 : Hp → Prop),
      (∀ y H4, Same H' H4 → Acc (i + 1) (ys ++ [y]) H4 → N1 y H4) → (∀ H3, Same H' H3 → Acc (i + 1) ys H3 → N0 H3) →
      g x (wipe σ vs) H'' fun σ2 H2 => wipe σ2 vs = wipe σ vs ∧ tt σ2 H2 fun b H3 => if b = true then te σ2 H3 N1 else N0 H3)
    (fin : ∀ H' ys, Same H1 H' → H' D = some (.lst ys) → Acc n ys H' → Qd H') : LcAsk J g tt te vs σ H1 D Qd := by
  refine lc_it w (fun i H' => ∃ ys, H' D = some (.lst ys) ∧ ys.length ≤ i ∧ Same H1 H' ∧ Acc i ys H') ?_ ?_ ?_ ?_
  · have s : Same H1 (upd H1 D (.lst [])) := same_upd hD
    exact ⟨[], upd_same, Nat.le_refl _, s, h0 _ s⟩
  · rintro i H' _ ⟨ys, _, _, s, _⟩
    exact hG _ s
  · rintro i x H' H'' hi ⟨ys, hd, hl, s, a⟩ y
    refine step i x ys H' H'' hi s hd a y _ _ (fun z H4 s4 a4 => ?_) (fun H3 s3 a3 => ?_)
    · have hd4 := s4 _ _ hd
      refine ⟨ys, hd4, ?_, ys ++ [z], upd_same, by simp; omega, ?_, m2 _ _ _ _ _ hd4 a4⟩
      · rw [sizeLine_eq]; omega
      · intro b o e
        rw [upd_ne (ne_of_none e hD)]
        exact s4 _ _ (s _ _ e)
    · exact ⟨ys, s3 _ _ hd, by omega, s.trans s3, a3⟩
  · rintro H' ⟨ys, hd, _, s, a⟩
    exact fin H' ys s hd a
/-- one element for each, as R says; the loop's variable in slot v -/
theorem lc_map {v : Nat} (w : Walk J n G Y) (hD : H1 D = none) (hz : n ≤ 1000000) (hG : ∀ H', Same H1 H' → G H')
    (R : Nat → V → Hp → Prop) (m1 : ∀ j y Ha Hb, Same Ha Hb → R j y Ha → R j y Hb) (m2 : ∀ j y Ha us zs, Ha D = some (.lst us) → R j y Ha → R j y (upd Ha D (.lst zs)))
    (step : ∀ i x H' H'', i < n → Same H1 H' → Same H1 H'' → (∃ ys, H' D = some (.lst ys)) → Y i H' x H'' → ∀ N1 : VK, (∀ y H4, Same H' H4 → R i y H4 → N1 y H4) → te ((σ.set v none).set v (some x)) H'' N1)
    (hY : ∀ i H x H', Y i H x H' → Same H H')
    (fin : ∀ H' ys, Same H1 H' → H' D = some (.lst ys) → ys.length = n → (∀ j y, ys[j]? = some y → R j y H') → Qd H') : LcAsk J (gName v) tYes te [v] σ H1 D Qd := by
  refine lc_acc w hD hz hG hY (fun i ys H => ys.length = i ∧ ∀ j y, ys[j]? = some y → R j y H) (fun i ys Ha Hb s a => ⟨a.1, fun j y e => m1 _ _ _ _ s (a.2 j y e)⟩) (fun i ys Ha us zs e a => ⟨a.1, fun j y e' => m2 _ _ _ _ _ e (a.2 j y e')⟩)
    (fun _ _ => ⟨rfl, fun j y e => by simp at e⟩) (fun i x ys H' H'' hi s hd a y N1 N0 k1 _ => ?_) (fun H' ys s hd a => fin H' ys s hd a.1 a.2)
  refine ⟨?_, ?_⟩
  · show ((wipe σ [v]).set v (some x)).set v none = wipe σ [v]
    simp [wipe]
  · show (if true = true then te ((wipe σ [v]).set v (some x)) H'' N1 else N0 H'')
    rw [if_pos rfl]
    refine (step i x H' H'' hi s (s.trans (hY _ _ _ _ y)) ⟨ys, hd⟩ y N1 fun z H4 s4 r => k1 z H4 s4 ⟨by simp [a.1], fun j u e => ?_⟩)
    by_cases hj : j < ys.length
    · rw [List.getElem?_append_left hj] at e
      exact m1 _ _ _ _ s4 (a.2 j u e)
    · rw [List.getElem?_append_right (by omega)] at e
      by_cases h0 : j - ys.length = 0
      · rw [h0] at e
        have e2 : z = u := by simpa using e
        have e3 : j = i := by have := a.1; omega
        rw [e3, ← e2]; exact r
      · rw [List.getElem?_eq_none (by simp; omega)] at e
        cases e
end
section
variable {H : Hp} {K : PySem.W.Frag}
theorem walk_same {xs : List V} : ∀ i H x H', YAt xs i H x H' → Same H H' := fun _ _ _ _ y => by rw [y.1]; exact Same.refl _
theorem walk_sameF {f : Nat → V} : ∀ i H x H', YFn f i H x H' → Same H H' := fun _ _ _ _ y => by rw [y.1]; exact Same.refl _
theorem r_iseq {tl : TE} {σ : L2.St} {R : It → Hp → Prop} {a : Addr} {xs : List V} (h : Sq K H a xs) (hl : ∀ N : VK, N (.ref a) H → tl σ H N)
    (q : ∀ (J : It) (G : Hp → Prop), (∀ H', Same H H' → G H') → Walk J xs.length G (YAt xs) → R J H) : iSeq K tl σ H R := by
  rcases h with h | h
  · exact .inl (hl _ ⟨a, rfl, ⟨xs, h⟩, q _ _ (fun H' s => SqL.ext h s) walk_list⟩)
  · exact .inr (hl _ ⟨a, rfl, ⟨xs, h⟩, q _ _ (fun H' s => SqT.ext h s) walk_tup⟩)
theorem r_iseqV {v : Nat} {σ : L2.St} {R : It → Hp → Prop} {a : Addr} {xs : List V} (h : Sq K H a xs) (e : σ[v]? = some (some (.ref a)))
    (q : ∀ (J : It) (G : Hp → Prop), (∀ H', Same H H' → G H') → Walk J xs.length G (YAt xs) → R J H) : iSeq K (tVar v) σ H R := r_iseq h (fun _ n => ⟨_, e, n⟩) q
theorem r_rng1 {ta : TA} {σ : L2.St} {R : It → Hp → Prop} (q : ta σ H fun vs H1 => ∃ j : Int, vs = [.int j] ∧ -(2 ^ 62) ≤ j ∧ j < 2 ^ 62 ∧ R (Itr 0 j.toNat) H1) : iRng1 ta σ H R := q
theorem r_rng2 {ta : TA} {σ : L2.St} {R : It → Hp → Prop} (q : ta σ H fun vs H1 => ∃ i j : Int, vs = [.int i, .int j] ∧ (-(2 ^ 62) ≤ i ∧ i < 2 ^ 62 ∧ -(2 ^ 62) ≤ j ∧ j < 2 ^ 62) ∧ R (Itr i (j - i).toNat) H1) : iRng2 ta σ H R := q
end
end Pg
namespace Pg
open PySem PySem.Spec PyProof.Rows L2
theorem szl {n : Nat} (h : n ≤ 1000000) : n ≤ sizeLine := by rw [sizeLine_eq]; omega
theorem ty_sq {K : PySem.W.Frag} {H : Hp} {a : Addr} {xs : List V} (h : Sq K H a xs) : TyX K H (.ref a) (.type "list") ∨ TyX K H (.ref a) (.type "tuple") := by
  rcases h with h | h
  · left
    rcases h with (h | ⟨o, h⟩) | ⟨o, its, n, e, c, _⟩
    · exact .base (.lst h)
    · exact .base (.frz h)
    · exact .kList e c
  · right
    rcases h with (h | ⟨o, h⟩) | ⟨o, its, n, e, c, _⟩
    · exact .base (.tup h)
    · exact .fTuple h
    · exact .kTuple e c
/-- isinstance(x, (list, tuple)) of a sequence -/
theorem r_isSeq {K : PySem.W.Frag} {H : Hp} {Q : VK} {a p : Addr} {xs : List V} (hp : H p = some (.tup [.ty "list", .ty "tuple"])) (h : Sq K H a xs) (q : Q (.bl true) H) : rIsiU K [.ref a, .ref p] H Q := by
  rcases ty_sq h with t | t
  · exact r_isi2 hp t (by decide +kernel : kitB "list" "list" = some true) (by decide +kernel : kitB "list" "tuple" = some false) q
  · exact r_isi2 hp t (by decide +kernel : kitB "tuple" "list" = some false) (by decide +kernel : kitB "tuple" "tuple" = some true) q
end Pg

namespace PySem
open AutoSeq1 (wpAny_loadPart')
/-- enumerate(v) of one argument, v told by how its iterator begins -/
theorem pg_enumNew {v : Value} {o : Obj} {G : Heap → Prop} (B : Begins v o G) :
    Meets (Builtin.«enumerate.__new__» ⟨[.type "enumerate", v], []⟩) (fun _ R s => G s.heap ∧
      R (.ok (.ret (.ref (s.heap.push o).objs.size))) { s with heap := (s.heap.push o).push { cls := .type "enumerate", data := .fields #[.none, .bool false, .ref s.heap.objs.size, rawInt 0, .none, .none] } }) :=
  .of_wp fun prog w A R s h => by
    obtain ⟨hp, g, d, tk, os⟩ := s
    obtain ⟨hg, h⟩ := h
    have hsub := sub_enumerate
    have q1 : ∀ {A' : Around} {E : Value → Shared → Prop} {Q : Value → Shared → Prop}, Q (.ref hp.objs.size) ⟨hp.push o, g, d, tk, os⟩ → wpAny (model prog w) A' (pyIter v) Q E ⟨hp, g, d, tk, os⟩ := fun q => B.iter prog w _ _ ⟨hp, g, d, tk, os⟩ _ hg q
    wp_walk
    refine wpAny_stack_any fun st => wpAny_pure ?_
    split
    · rename_i c _ _ _ _ _
      cases (c == Value.type "enumerate")
      all_goals
        wp_walk using q1
        exact ⟨_, rfl, h⟩
    · wp_walk using q1
      exact ⟨_, rfl, h⟩
theorem pg_enum {prog : Program} {w : World} {A : Around} {E : Value → Shared → Prop} {s : Shared} {v : Value} {o : Obj} {G : Heap → Prop} {Q : Value → Shared → Prop} (B : Begins v o G) (hg : G s.heap)
    (h : ∀ h', IsEnum h' (s.heap.objs.size + 1) s.heap.objs.size 0 .none → h'.get? s.heap.objs.size = some o → (∀ b u, s.heap.get? b = some u → h'.get? b = some u) → Q (.ref (s.heap.objs.size + 1)) { s with heap := h' }) :
    wpAny (model prog w) A (call (.type "enumerate") [v]) Q E s := by
  refine callType_new F.called_enumerate (by decide) (F.typeCall_enumerate_1 _) (F.newCall_enumerate_1 _) (fun obj => F.args_object_init_2 obj _) F.entry_enumerate_new (pg_enumNew B) ⟨hg, ?_⟩
  have size1 : (s.heap.push o).objs.size = s.heap.objs.size + 1 := Heap.size_push ..
  show _ ∧ _
  rw [size1]
  have there : IsEnum ((s.heap.push o).push { cls := .type "enumerate", data := .fields #[.none, .bool false, .ref s.heap.objs.size, rawInt 0, .none, .none] }) (s.heap.objs.size + 1) s.heap.objs.size 0 .none := by
    have z := Heap.get?_push_size (s.heap.push o) (o := { cls := .type "enumerate", data := .fields #[.none, .bool false, .ref s.heap.objs.size, rawInt 0, .none, .none] }) rfl
    rw [size1] at z; exact z
  exact ⟨⟨_, there, rfl⟩, h _ there (Heap.get?_push_of_some _ (Heap.get?_push_size _ B.free)) fun b u x => Heap.get?_push_of_some _ (Heap.get?_push_of_some _ x)⟩
end PySem
namespace Pg
open PySem PySem.Spec PyProof.Rows L2
/-- the tuple at a, each item in a new pair behind its index -/
def IteT (K : PySem.W.Frag) (a : Addr) : It :=
  ⟨fun i H => ∃ (xs : List V) (x : V), SqT K H a xs ∧ xs[i]? = some x, fun i H v H' => ∃ T x, v = .ref T ∧ H T = none ∧ H' = upd H T (.tup [.int (i : Nat), x]) ∧ ∀ xs, SqT K H a xs → xs[i]? = some x, fun i H => ∃ xs : List V, SqT K H a xs ∧ xs.length = i⟩
theorem turn_enumT {P : Program} {w : World} {K : PySem.W.Frag} {elts : List Expr} {kk : Nat} {tpos : Pos} (a e it : Addr) :
    Turn P w K (.Tuple elts kk tpos) (IteT K a) [e, it] e (fun i h => (∃ old, IsEnum h e it ((i : Nat) : Int) old) ∧ h.IsTupleIter it a i ∧ e ≠ it) where
  mem := by simp
  obj := fun i h st b hb => by
    obtain ⟨⟨old, he⟩, ⟨o, ho, hc, hd⟩, _⟩ := st
    rcases (show b = e ∨ b = it by simpa using hb) with z | z
    · rw [z]; exact ⟨_, he, fun v q => nomatch q⟩
    · rw [z]; exact ⟨o, ho, fun v q => by rw [hd] at q; cases q⟩
  keep := fun i h h' st k => let ⟨⟨old, he⟩, hi, hne⟩ := st; ⟨⟨old, k e (by simp) _ he⟩, hi.at fun o q => k it (by simp) o q, hne⟩
  item := by
    intro X hP hw hK hc i pins s σ H E I hf st hg
    subst hP hw hK
    obtain ⟨⟨old, he⟩, hit, hne⟩ := st
    obtain ⟨xs, x, hq, hx⟩ := hg
    obtain ⟨its, rv, tp, hz⟩ := I.tuple hq
    obtain ⟨u, hu, ru⟩ := rv.get hx
    have el : e < s.heap.objs.size := Heap.lt_size he
    have il : it < s.heap.objs.size := by obtain ⟨_, q, _⟩ := hit; exact Heap.lt_size q
    have ea : e ≠ a := by
      rintro rfl
      obtain ⟨o, h1, h2, _⟩ := tp
      have h1' : s.heap.get? e = some o := h1
      rw [he] at h1'; cases h1'; simp at h2
    have ia : a ≠ it := by
      rintro rfl
      obtain ⟨o, h1, h2, _⟩ := tp
      obtain ⟨o2, h3, h4, _⟩ := hit
      have h1' : s.heap.get? a = some o := h1
      rw [h3] at h1'; cases h1'; rw [h2] at h4; simp at h4
    have lt : i < its.toArray.size := by
      have := (List.getElem?_eq_some_iff.mp hu).1
      simpa using this
    refine wpAny_pyNext_enum_itemD (Draws.tuple (A := X.A.in1) (by exact I.ok.hd hc) it a ia its.toArray) he ⟨hit, tp⟩ lt hne (by simp; exact ⟨hne, ea⟩) fun y h' tk hy ho st' hT hsz hk => ?_
    obtain rfl : y = u := by
      have : its.toArray[i]? = some u := by simpa using hu
      rw [this] at hy; exact (Option.some.inj hy).symm
    refine ⟨_, rfl, wpAny_letOwnedTupleGo_enum (s := { s with heap := h', toks := tk + 1 }) ho fun h'' he' sb => ?_⟩
    have hT2 : h''.get? s.heap.objs.size = some { cls := .type "tuple", data := .seq #[.int i tk, y] } := (sb.2 _ (Nat.ne_of_gt el)).trans hT
    have new : ObjOk X.prog X.w (upd H s.heap.objs.size (.tup [.int (i : Nat), x])) h'' s.heap.objs.size (.tup [.int (i : Nat), x]) :=
      ⟨by show 2 ≤ sizeLine; decide, [.int i tk, y], .cons ⟨_, rfl⟩ (.cons ru .nil), ⟨_, hT2, rfl, _, rfl⟩⟩
    have I1 : Inv X pins σ (upd H s.heap.objs.size (.tup [.int (i : Nat), x])) { s with heap := h'', toks := tk + 1 } :=
      I.turnedNew (ch := [e, it]) (fun b ob hb q => (sb.2 b (fun z => hb (by simp [z]))).trans (hk b ob (fun z => hb (by simp [z])) (fun z => hb (by simp [z])) q)) hf (Nat.le_refl _) new
    refine ⟨.ref s.heap.objs.size, _, I1, rfl, ⟨_, x, rfl, I.hok.fresh (Nat.le_refl _), rfl, fun ys hy => by rw [I.tuple_inj hy hq]; exact hx⟩, ⟨⟨y, ?_⟩, st'.1.at fun o q => (sb.2 it (Ne.symm hne)).trans q, hne⟩, fun b hb => ?_⟩
    · rw [show ((i + 1 : Nat) : Int) = (i : Int) + 1 by omega]; exact he'
    · have low : b < s.heap.objs.size := by
        rcases (show b = e ∨ b = it by simpa using hb) with z | z
        · rw [z]; exact el
        · rw [z]; exact il
      rw [upd_ne (Nat.ne_of_lt low)]
      exact (hf b hb).1
  done := by
    intro X hP hw hK hc i pins s σ H E I hf st hg
    subst hP hw hK
    obtain ⟨⟨old, he⟩, hit, hne⟩ := st
    obtain ⟨xs, hq, hx⟩ := hg
    obtain ⟨its, rv, tp, hz⟩ := I.tuple hq
    obtain ⟨f0, f1, f2, f3, f4, f5⟩ := hf it (by simp)
    have ia : a ≠ it := by
      rintro rfl
      obtain ⟨o, h1, h2, _⟩ := tp
      obtain ⟨o2, h3, h4, _⟩ := hit
      have h1' : s.heap.get? a = some o := h1
      rw [h3] at h1'; cases h1'; rw [h2] at h4; simp at h4
    have hl : its.toArray.size = i := by rw [List.size_toArray, ← rv.length, hx]
    refine wpAny_pyNext_enum_endD (Draws.tuple (A := X.A.in1) (by exact I.ok.hd hc) it a ia its.toArray) he (by rw [hl]; exact ⟨hit, tp⟩) fun h' eb => ⟨rfl, I.turned (t' := s.toks) (fun b o hb q => eb b o hb q) f0 f1 f3 f4 f5⟩
  self := fun A i s Q E st h => let ⟨⟨_, he⟩, _⟩ := st; wpAny_pyIter_enum he h
def iEnumU (K : PySem.W.Frag) (ta : TA) : TI := fun σ H R => iEnum K ta σ H R ∨ (ta σ H fun vs H1 => ∃ a xs, vs = [.ref a] ∧ SqT K H1 a xs ∧ R (IteT K a) H1)
theorem pi_enumT {X : Cx} {e : Expr} {ta : TA} {p pos tpos : Pos} {elts : List Expr} {kk : Nat} (hg : Gl X "enumerate") (hm : X.mg "enumerate" = none) (ha : PA X [e] ta) (hs : starEach [e] X.env = [(false, eval e X.env)] := by rfl) :
    PI X (.Tuple elts kk tpos) (.Call (.Name "enumerate" p) [e] [] pos) (fun σ H R => ta σ H fun vs H1 => ∃ a xs, vs = [.ref a] ∧ SqT X.K H1 a xs ∧ R (IteT X.K a) H1) := by
  refine ⟨fun pins s σ H R I h => ?_⟩
  refine Call_ (ld_blt I hg hm boot_enumerate (PyProof.Rows.callWith_type1 (thn (ha.run pos pins s σ H _ I h) fun us s1 ⟨vs, H1, I1, r1, q1⟩ => ?_) hs rfl))
  obtain ⟨a, xs, ex, hq, q⟩ := q1
  subst ex
  obtain ⟨u, rfl, ru⟩ := vals1 r1
  cases (show u = Value.ref a from ru)
  obtain ⟨its, rv, tp, hz⟩ := I1.tuple hq
  refine pg_enum (begins_tuple a its.toArray) tp fun h' he hit hk => wpAny_pyIter_enum he ?_
  have I2 : Inv X pins σ H1 { s1 with heap := h' } := I1.kept (t' := s1.toks) hk
  refine ⟨s1.heap.objs.size + 1, [s1.heap.objs.size + 1, s1.heap.objs.size], _, _, H1, rfl, I2, turn_enumT a (s1.heap.objs.size + 1) s1.heap.objs.size, ⟨⟨.none, he⟩, ⟨_, hit, rfl, rfl⟩, Nat.succ_ne_self _⟩, fun b hb => ?_, q⟩
  have le : s1.heap.objs.size ≤ b := by
    rcases (show b = s1.heap.objs.size + 1 ∨ b = s1.heap.objs.size by simpa using hb) with z | z
    · rw [z]; exact Nat.le_add_right _ _
    · rw [z]; exact Nat.le_refl _
  exact I1.fpOk le (I1.hok.fresh le)
theorem pi_enumU {X : Cx} {e : Expr} {ta : TA} {p pos tpos : Pos} {elts : List Expr} {kk : Nat} (hg : Gl X "enumerate") (hm : X.mg "enumerate" = none) (ha : PA X [e] ta) (hs : starEach [e] X.env = [(false, eval e X.env)] := by rfl) :
    PI X (.Tuple elts kk tpos) (.Call (.Name "enumerate" p) [e] [] pos) (iEnumU X.K ta) := pi_or (pi_enum hg hm ha hs) (pi_enumT hg hm ha hs)
theorem walk_enumT {K : PySem.W.Frag} {a : Addr} {xs : List V} : Walk (IteT K a) xs.length (fun H => SqT K H a xs) (YPair (fun i => some (.int (i : Nat))) (fun i => xs[i]?)) := by
  refine ⟨fun i _ hi q => ⟨xs, xs[i], q, by simp [hi]⟩, fun _ q => ⟨xs, q, rfl⟩, fun i H v H' _ q y => ?_⟩
  obtain ⟨T, x, h1, h2, h3, h4⟩ := y
  exact ⟨T, .int (i : Nat), x, h1, h2, h3, rfl, h4 xs q⟩
/-- enumerate of a list or a tuple that a name holds -/
theorem r_ienumV {K : PySem.W.Frag} {v : Nat} {σ : L2.St} {H : Hp} {R : It → Hp → Prop} {a : Addr} {xs : List V} (h : Sq K H a xs) (e : σ[v]? = some (some (.ref a)))
    (q : ∀ (J : It) (G : Hp → Prop), (∀ H', Same H H' → G H') → Walk J xs.length G (YPair (fun i => some (.int (i : Nat))) (fun i => xs[i]?)) → R J H) : iEnumU K (tCons (tVar v) tNil) σ H R := by
  rcases h with h | h
  · exact .inl ⟨_, e, a, xs, rfl, h, q _ _ (fun H' s => SqL.ext h s) walk_enum⟩
  · exact .inr ⟨_, e, a, xs, rfl, h, q _ _ (fun H' s => SqT.ext h s) walk_enumT⟩
/-- a for: the iterator's walk, an invariant -/
def ForAsk (J : It) (g : TG) (tb : TS) (D : Ends) (σ : L2.St) (H1 : Hp) : Prop := ∃ W : Nat → Nat → L2.St → Hp → Prop, (∃ m, W 0 m σ H1) ∧ ∀ i m σ H, W i m σ H →
  (J.stop i H ∧ D.nx σ H) ∨ (J.go i H ∧ ∃ N : L2.St → Hp → Prop, (∀ σ' H', N σ' H' → ∃ m', m' < m ∧ W (i + 1) m' σ' H') ∧ ∀ x H', J.yld i H x H' → g x σ H' fun σ2 H2 => tb { D with nx := N, ct := N, bk := D.nx } σ2 H2)
theorem r_for {wi : TI} {g : TG} {tb : TS} {D : Ends} {σ : L2.St} {H : Hp} (q : wi σ H fun J H1 => ForAsk J g tb D σ H1) : tFor wi g tb D σ H := q
theorem for_ask {J : It} {n : Nat} {G : Hp → Prop} {Y : Nat → Hp → V → Hp → Prop} (w : Walk J n G Y) {g : TG} {tb : TS} {D : Ends} {σ : L2.St} {H : Hp} (Pv : Nat → L2.St → Hp → Prop) (h0 : Pv 0 σ H) (hG : ∀ i σ H, i ≤ n → Pv i σ H → G H)
    (hs : ∀ i x σ H H', i < n → Pv i σ H → Y i H x H' → g x σ H' fun σ2 H2 => tb { D with nx := Pv (i + 1), ct := Pv (i + 1), bk := D.nx } σ2 H2) (hd : ∀ σ H, Pv n σ H → D.nx σ H) : ForAsk J g tb D σ H := for_it w Pv h0 hG hs hd
/-- a new pair handed to two names -/
theorem r_gpair {K : PySem.W.Frag} {i j : Nat} {T : Addr} {x y : V} {σ : L2.St} {H : Hp} {N : L2.St → Hp → Prop} (h : H T = some (.tup [x, y])) (q : N ((σ.set i (some x)).set j (some y)) H) : gTup K 2 (gCons (gName i) (gCons (gName j) gNil)) (.ref T) σ H N :=
  ⟨T, _, rfl, SqT.of h, rfl, x, [y], rfl, y, [], rfl, rfl, q⟩
end Pg
namespace Pg
open PySem PySem.Spec PyProof.Rows L2
/-- what is no tuple and not held fast may be written: tuples stay -/
def Soft : HO → Bool
  | .tup _ => false
  | .frz _ _ => false
  | _ => true
theorem SqT.soft {K : PySem.W.Frag} {H : Hp} {a p : Addr} {xs : List V} {o n : HO} (h : H p = some o) (so : Soft o = true) (q : SqT K H a xs) : SqT K (upd H p n) a xs := by
  rcases q with q | q
  · have nap : a ≠ p := by
      rintro rfl
      rcases q with e | ⟨w, e⟩
      · rw [h] at e; cases e; cases so
      · rw [h] at e; cases e; cases so
    rcases q with e | ⟨w, e⟩
    · exact .inl (.inl (by rw [upd_ne nap]; exact e))
    · exact .inl (.inr ⟨w, by rw [upd_ne nap]; exact e⟩)
  · exact .inr q
theorem paired_of {α β : Type} {F : α → β → Prop} : ∀ {xs : List α} {ys : List β}, xs.length = ys.length → (∀ (j : Nat) (x : α), xs[j]? = some x → ∃ y, ys[j]? = some y ∧ F x y) → Paired F xs ys
  | [], [], _, _ => .nil
  | [], _ :: _, h, _ => by simp at h
  | _ :: _, [], h, _ => by simp at h
  | x :: xs, y :: ys, h, f => by
    obtain ⟨y', e, q⟩ := f 0 x (by simp)
    have e' : y = y' := by simpa using e
    subst e'
    exact .cons q (paired_of (by simpa using h) fun j z hz => by simpa using f (j + 1) z (by simpa using hz))
theorem paired_at {α β : Type} {F : α → β → Prop} : ∀ {xs : List α} {ys : List β}, Paired F xs ys → ∀ {j : Nat} {x : α}, xs[j]? = some x → ∃ y, ys[j]? = some y ∧ F x y
  | _, _, .nil, j, x, e => by simp at e
  | _, _, .cons q r, 0, x, e => by simp at e; subst e; exact ⟨_, by simp, q⟩
  | _, _, .cons q r, j + 1, x, e => by
    obtain ⟨y, e1, e2⟩ := paired_at r (j := j) (x := x) (by simpa using e)
    exact ⟨y, by simpa using e1, e2⟩
theorem paired_len {α β : Type} {F : α → β → Prop} {xs : List α} {ys : List β} (h : Paired F xs ys) : xs.length = ys.length := Paired.length h
end Pg

namespace Pg
open PySem PySem.Spec PyProof.Rows L2
/-! ### the rules with the written part named: within a comprehension it is the same one -/
section
variable {X : Cx} {k : Nat} (K : PySem.W.Frag)
theorem kAdd (h : X.K = K := by rfl) : OpR X (binaryOp .Add) (rAddU K) := h ▸ op_addU
theorem kEq (hr : Room k X.A) (h : X.K = K := by rfl) : OpR X (compareOp .Eq) (rEqU K) := h ▸ op_eqU hr
theorem kNe (hr : Room k X.A) (h : X.K = K := by rfl) : OpR X (compareOp .NotEq) (rNeU K) := h ▸ op_neU hr
theorem kIsi (h : X.K = K := by rfl) : CallR X (.builtin "isinstance") (rIsiU K) := h ▸ call_isiU
theorem kLen (h : X.K = K := by rfl) : CallR X (.builtin "len") (rLenU K) := h ▸ call_lenU
theorem kList (h : X.K = K := by rfl) : CallR X (.type "list") (rListU K) := h ▸ call_listU
theorem kTuple (h : X.K = K := by rfl) : CallR X (.type "tuple") (rTupleU K) := h ▸ call_tupleU
theorem kSl (h : X.K = K := by rfl) : SlR X (rSlU K) := h ▸ sl_U
theorem kIn (h : X.K = K := by rfl) : OpR X (compareOp .In) (rInU K) := h ▸ op_inU
theorem kNin (h : X.K = K := by rfl) : OpR X (compareOp .NotIn) (rNinU K) := h ▸ op_ninU
theorem kIx (h : X.K = K := by rfl) : IxR X (rIx K) := h ▸ ix_seq
theorem kAll (hc : X.calm = true) (h : X.K = K := by rfl) : CallR X (.builtin "all") (rAll K) := h ▸ cr_all hc
theorem kAny (hc : X.calm = true) (h : X.K = K := by rfl) : CallR X (.builtin "any") (rAny K) := h ▸ cr_any hc
theorem kSum (hc : X.calm = true) (h : X.K = K := by rfl) : CallR X (.builtin "sum") (rSum K) := h ▸ cr_sum hc
theorem kSeq {tg l : Expr} {tl : TE} (hl : PE X l tl) (h : X.K = K := by rfl) : PI X tg l (iSeq K tl) := h ▸ pi_seq hl
theorem kFld {e : Expr} {f : Str} {ta : TE} {pos : Pos} (he : PE X e ta) (hb : attributeBase e f X.env (eval e X.env) = eval e X.env) (h : X.K = K := by rfl) : PE X (.Attribute e f pos) (tFld K ta f) := h ▸ pe_fld he hb
theorem kJoin {o e : Expr} {to te : TE} {apos pos : Pos} (ho : PE X o to) (he : PE X e te) (h : X.K = K := by rfl) (hs : starEach [e] X.env = [(false, eval e X.env)] := by rfl) (hbase : attributeBase o "join" X.env (eval o X.env) = eval o X.env := by rfl) (hline : (apos.endLine == pos.line) = true := by rfl) :
    PE X (.Call (.Attribute o "join" apos) [e] [] pos) (tM1 (rJoin K) to te) := h ▸ pjoin ho he hs hbase hline
theorem kMoveE {e : Expr} {f : PySem.W.Frag → TE} (he : PE X e (f X.K)) (h : X.K = K := by rfl) : PE X e (f K) := h ▸ he
theorem kMoveI {tg l : Expr} {f : PySem.W.Frag → TI} (he : PI X tg l (f X.K)) (h : X.K = K := by rfl) : PI X tg l (f K) := h ▸ he
end
end Pg
namespace Pg
open PySem PySem.Spec PyProof.Rows L2
section
variable {P : Program} {w : World} {K : PySem.W.Frag} {mg : Str → Option Value} {base : Heap}
theorem cm_of {x qual : Str} {st : Stmt} {C f : Addr} {fd : FuncData} {N ps : List Str} {k : Nat} {sp : Sp} (F : FunD K "__init__" qual (defArgs st) (defBody st) (defScope st) [] [] f fd) (M : Mk K C f) (hg : mg x = some (.ref C)) (S : FnScope N ps (defScope st))
    (hb : ∀ (kV doc pm : Value) (an : Option Addr) (cdv ct : Value) (us : List Value), us.length = ps.length → bindArgs (PySem.W.fnOf "__init__" qual (defArgs st) (defBody st) (defScope st) .none kV doc pm an cdv ct) ⟨us, []⟩ = pure (ps.zip us))
    (len : ∀ vs H Q E, sp vs H Q E → vs.length = ps.length)
    (body : ∀ (cdv : Value) (A : Around) (outer : List Env) (s : Shared) (H : Hp) (vs : List V) (Q : VK) (E : XK), Room k (A.deeper (envOfC qual (defScope st) s.heap.objs.size f cdv)) → sp vs H Q E →
      ∃ t, PSs (cxOf (L2.CX P w) P w K mg base N qual (defScope st) f cdv A outer s H E).nox (defBody st) t ∧ t { nx := fun _ H' => Q .non H', rt := Q } (start N vs) H) : Cm P w K mg base (k + 1) x C sp [] :=
  ⟨f, fd, ps, [], M, F.ok S len fun cdv A outer s H vs Q E hr h => let ⟨t, p, q⟩ := body cdv A outer s H vs Q E hr h; ⟨t, p.nox, q⟩, hg, F.bindsN hb, .nil⟩
theorem eqOf_of {qual : Str} {st : Stmt} {C f : Addr} {fd : FuncData} {N ps : List Str} {k : Nat} {sp : Sp} (F : FunD K "__eq__" qual (defArgs st) (defBody st) (defScope st) [] [] f fd) (M : Meth K C "__eq__" f)
    (hne : PySem.W.findIn K (.ref C) "__ne__" = some (some (.builtin "object.__ne__"))) (hmr : PySem.W.mroIn K C (.type "object") = some true) (S : FnScope N ps (defScope st))
    (hb : ∀ (kV doc pm : Value) (an : Option Addr) (cdv ct : Value) (us : List Value), us.length = ps.length → bindArgs (PySem.W.fnOf "__eq__" qual (defArgs st) (defBody st) (defScope st) .none kV doc pm an cdv ct) ⟨us, []⟩ = pure (ps.zip us))
    (len : ∀ vs H Q E, sp vs H Q E → vs.length = ps.length)
    (body : ∀ (cdv : Value) (A : Around) (outer : List Env) (s : Shared) (H : Hp) (vs : List V) (Q : VK) (E : XK), Room k (A.deeper (envOfC qual (defScope st) s.heap.objs.size f cdv)) → sp vs H Q E →
      ∃ t, PSs (cxOf (L2.CX P w) P w K mg base N qual (defScope st) f cdv A outer s H E).nox (defBody st) t ∧ t { nx := fun _ H' => Q .non H', rt := Q } (start N vs) H) : EqOf P w K mg base (k + 1) C sp :=
  ⟨⟨f, fd, ps, F.ok S len fun cdv A outer s H vs Q E hr h => let ⟨t, p, q⟩ := body cdv A outer s H vs Q E hr h; ⟨t, p.nox, q⟩, M.at_, M.fn, F.bindsN hb⟩, hne, hmr⟩
end
end Pg

namespace Pg
open PySem PySem.Spec PyProof.Rows L2
/-! ### data: whole numbers in tuples and lists -/
theorem canLayAll_map {α : Type} {f : α → PyData} (h : ∀ x, (f x).canLay0 = true) : ∀ xs : List α, PyData.canLayAll0 (xs.map f) = true
  | [] => rfl
  | x :: xs => by
    show (PyData.canLay0 (f x) && PyData.canLayAll0 (xs.map f)) = true
    rw [h x, canLayAll_map h xs]; rfl
theorem depthAll_map {α : Type} {f : α → PyData} {d : Nat} (h : ∀ x, (f x).depth ≤ d) : ∀ xs : List α, PyData.depthAll (xs.map f) ≤ d
  | [] => Nat.zero_le _
  | x :: xs => by
    show max (PyData.depth (f x)) (PyData.depthAll (xs.map f)) ≤ d
    exact Nat.max_le.mpr ⟨h x, depthAll_map h xs⟩
theorem shaped_of {d : PyData} (h : d.canLay0 = true) (k : d.depth ≤ 64) : SeqAt.shaped d = true := by
  unfold SeqAt.shaped
  rw [h, decide_eq_true k]; rfl
theorem eqvAll_map {α : Type} {f : α → PyData} [DecidableEq α] (h : ∀ x y, PyData.eqv (f x) (f y) = decide (x = y)) : ∀ xs ys : List α, PyData.eqvAll (xs.map f) (ys.map f) = decide (xs = ys)
  | [], [] => rfl
  | [], _ :: _ => rfl
  | _ :: _, [] => rfl
  | x :: xs, y :: ys => by
    show (PyData.eqv (f x) (f y) && PyData.eqvAll (xs.map f) (ys.map f)) = _
    rw [h x y, eqvAll_map h xs ys]
    by_cases e : x = y <;> by_cases e2 : xs = ys <;> simp [e, e2]
theorem eqv_int (x y : Int) : PyData.eqv (.int x) (.int y) = decide (x = y) := by
  show (x == y) = _
  by_cases h : x = y <;> simp [h]
def dT (ns : List Int) : PyData := .tuple (ns.map PyData.int)
def dL (ns : List Int) : PyData := .list (ns.map PyData.int)
def dTT (ts : List (List Int)) : PyData := .tuple (ts.map dT)
theorem lay_dT (ns : List Int) : (dT ns).canLay0 = true := canLayAll_map (fun _ => rfl) ns
theorem lay_dL (ns : List Int) : (dL ns).canLay0 = true := canLayAll_map (fun _ => rfl) ns
theorem lay_dTT (ts : List (List Int)) : (dTT ts).canLay0 = true := canLayAll_map lay_dT ts
theorem depth_dT (ns : List Int) : (dT ns).depth ≤ 1 := Nat.succ_le_succ (depthAll_map (d := 0) (fun _ => Nat.le_refl _) ns)
theorem depth_dL (ns : List Int) : (dL ns).depth ≤ 1 := Nat.succ_le_succ (depthAll_map (d := 0) (fun _ => Nat.le_refl _) ns)
theorem depth_dTT (ts : List (List Int)) : (dTT ts).depth ≤ 2 := Nat.succ_le_succ (depthAll_map (d := 1) depth_dT ts)
theorem sh_dT (ns : List Int) : SeqAt.shaped (dT ns) = true := shaped_of (lay_dT ns) (Nat.le_trans (depth_dT ns) (by decide))
theorem sh_dL (ns : List Int) : SeqAt.shaped (dL ns) = true := shaped_of (lay_dL ns) (Nat.le_trans (depth_dL ns) (by decide))
theorem sh_dTT (ts : List (List Int)) : SeqAt.shaped (dTT ts) = true := shaped_of (lay_dTT ts) (Nat.le_trans (depth_dTT ts) (by decide))
theorem eqv_dT (a b : List Int) : PyData.eqv (dT a) (dT b) = decide (a = b) := eqvAll_map eqv_int a b
theorem eqv_dL (a b : List Int) : PyData.eqv (dL a) (dL b) = decide (a = b) := eqvAll_map eqv_int a b
theorem eqv_dTT (a b : List (List Int)) : PyData.eqv (dTT a) (dTT b) = decide (a = b) := eqvAll_map eqv_dT a b
theorem dpAll_of {K : PySem.W.Frag} {H : Hp} {α : Type} {f : α → PyData} : ∀ {vs : List V} {xs : List α}, Paired (fun v x => Dp K H v (f x)) vs xs → DpAll K H vs (xs.map f)
  | _, _, .nil => .nil
  | _, _, .cons q r => .cons q (dpAll_of r)
end Pg

namespace Pg
open PySem PySem.Spec PyProof.Rows L2
/-! ### comprehensions that map -/
section
variable {J : It} {n : Nat} {G : Hp → Prop} {Y : Nat → Hp → V → Hp → Prop} {te : TE} {σ : L2.St} {H1 : Hp} {D : Addr} {Qd : Hp → Prop}
theorem lc_mapF {α : Type} {v : Nat} (w : Walk J n G Y) (hD : H1 D = none) (hG : ∀ H', Same H1 H' → G H') (xs : List α) (f : α → V) (hn : n = xs.length) (hz : n ≤ 1000000) (hY : ∀ i H x H', Y i H x H' → Same H H')
    (step : ∀ i x H' H'' a, xs[i]? = some a → Same H1 H' → Same H1 H'' → Y i H' x H'' → ∀ N1 : VK, (∀ H4, Same H' H4 → N1 (f a) H4) → te ((σ.set v none).set v (some x)) H'' N1)
    (fin : ∀ H', Same H1 H' → H' D = some (.lst (xs.map f)) → Qd H') : LcAsk J (gName v) tYes te [v] σ H1 D Qd := by
  refine lc_map w hD hz hG (fun i y _ => ∃ a, xs[i]? = some a ∧ y = f a) (fun _ _ _ _ _ h => h) (fun _ _ _ _ _ _ h => h) (fun i x H' H'' hi s1 s2 _ y N1 k => ?_) hY (fun H' ys s e hl h => fin H' s ?_)
  · have hi' : i < xs.length := hn ▸ hi
    exact step i x H' H'' xs[i] (List.getElem?_eq_getElem hi') s1 s2 y N1 fun H4 s4 => k _ _ s4 ⟨_, List.getElem?_eq_getElem hi', rfl⟩
  · rw [e]
    congr 2
    refine List.ext_getElem? fun j => ?_
    rw [List.getElem?_map]
    cases e : ys[j]? with
    | none =>
      have : xs.length ≤ j := by have := List.getElem?_eq_none_iff.mp e; omega
      rw [List.getElem?_eq_none this]; rfl
    | some y =>
      obtain ⟨a, e1, e2⟩ := h j y e
      rw [e1, e2]; rfl
end
/-! ### texts of numbers -/
/-- the signs of a whole number that is not below 0 -/
def nu (i : Int) : List Nat := TL.numL i.toNat
def rowL (ns : List Int) : List Nat := TL.joinL [32] (ns.map nu)
theorem str_nu {i : Int} (h : 0 ≤ i) : Str.ofString (toString i) = SX.S (nu i) := by
  have e : i = ((i.toNat : Nat) : Int) := (Int.toNat_of_nonneg h).symm
  unfold nu
  rw [← SX.num_S, ← e]
theorem nu_len {i : Int} (h : 0 ≤ i) (h1 : i < 1000000) : (nu i).length ≤ 6 := TL.numL_len (k := 6) (by decide) (by show i.toNat < 1000000; omega)
theorem nu_pos {i : Int} : nu i ≠ [] := TL.numL_ne _
theorem nu_dig {i : Int} {c : Nat} (h : c ∈ nu i) : 48 ≤ c ∧ c ≤ 57 := by
  have := TL.numL_digits i.toNat c h
  omega
theorem nu_inj {i j : Int} (hi : 0 ≤ i) (hj : 0 ≤ j) (h : nu i = nu j) : i = j := by
  have := TL.numL_inj h
  omega
theorem joinL_len (s : List Nat) : ∀ ps : List (List Nat), (TL.joinL s ps).length ≤ (ps.map (·.length)).sum + ps.length * s.length
  | [] => by simp [TL.joinL]
  | [p] => by simp [TL.joinL]
  | p :: q :: r => by
    have := joinL_len s (q :: r)
    simp [TL.joinL, Nat.add_mul] at this ⊢
    omega
theorem joinL_mem {s : List Nat} {c : Nat} : ∀ {ps : List (List Nat)}, c ∈ TL.joinL s ps → c ∈ s ∨ ∃ p ∈ ps, c ∈ p
  | [], h => by simp [TL.joinL] at h
  | [p], h => .inr ⟨p, by simp, h⟩
  | p :: q :: r, h => by
    have h' : c ∈ p ++ (s ++ TL.joinL s (q :: r)) := h
    rcases List.mem_append.mp h' with h' | h'
    · exact .inr ⟨p, by simp, h'⟩
    rcases List.mem_append.mp h' with h' | h'
    · exact .inl h'
    · rcases joinL_mem h' with h' | ⟨z, h1, h2⟩
      · exact .inl h'
      · exact .inr ⟨z, List.mem_cons_of_mem _ h1, h2⟩
theorem sum_le {k : Nat} : ∀ {ps : List Nat}, (∀ p ∈ ps, p ≤ k) → ps.sum ≤ ps.length * k
  | [], _ => by simp
  | p :: r, h => by
    have h1 := h p (by simp)
    have h2 := sum_le (ps := r) fun q hq => h q (List.mem_cons_of_mem _ hq)
    simp [Nat.add_mul]
    omega
/-- small whole numbers -/
def Sm (ns : List Int) : Prop := ∀ x ∈ ns, 0 ≤ x ∧ x < 1000000
theorem nus_sum {ns : List Int} (h : Sm ns) : ((ns.map nu).map (·.length)).sum ≤ ns.length * 6 := by
  have := sum_le (k := 6) (ps := (ns.map nu).map (·.length)) (fun p hp => by
    obtain ⟨q, hq, rfl⟩ := List.mem_map.mp hp
    obtain ⟨x, hx, rfl⟩ := List.mem_map.mp hq
    exact nu_len (h x hx).1 (h x hx).2)
  simpa using this
theorem rowL_len {ns : List Int} (h : Sm ns) : (rowL ns).length ≤ ns.length * 7 := by
  have h1 := joinL_len [32] (ns.map nu)
  have h2 := nus_sum h
  simp only [List.length_map, List.length_cons, List.length_nil] at h1
  unfold rowL
  omega
theorem rowL_mem {ns : List Int} {c : Nat} (h : c ∈ rowL ns) : c = 32 ∨ (48 ≤ c ∧ c ≤ 57) := by
  rcases joinL_mem h with h | ⟨p, hp, hc⟩
  · exact .inl (by simpa using h)
  · obtain ⟨x, _, rfl⟩ := List.mem_map.mp hp
    exact .inr (nu_dig hc)
theorem rowL_head {ns : List Int} (h : ns ≠ []) : ∃ c r, rowL ns = c :: r ∧ 48 ≤ c ∧ c ≤ 57 := by
  obtain ⟨x, xs, rfl⟩ := List.exists_cons_of_ne_nil h
  obtain ⟨c, r, e⟩ := List.exists_cons_of_ne_nil (nu_pos (i := x))
  have hc := nu_dig (i := x) (c := c) (by rw [e]; simp)
  cases xs with
  | nil => exact ⟨c, r, e, hc⟩
  | cons y ys => exact ⟨c, _, by show nu x ++ _ = _; rw [e]; rfl, hc⟩
theorem split_row {ns : List Int} (h : ns ≠ []) : Txt.split (SX.S (rowL ns)) (SX.S [32]) = (ns.map nu).map SX.S := by
  rw [SX.split_S (by simp) (by decide)]
  congr 1
  refine TL.spl_join (by simpa using h) fun p hp => ?_
  obtain ⟨x, _, rfl⟩ := List.mem_map.mp hp
  exact fun hm => by have := nu_dig hm; omega
theorem split_lines {ls : List (List Nat)} (h : ls ≠ []) (k : ∀ l ∈ ls, 10 ∉ l) : Txt.split (SX.S (TL.joinL [10] ls)) (SX.S [10]) = ls.map SX.S := by
  rw [SX.split_S (by simp) (by decide)]
  congr 1
  exact TL.spl_join h k
theorem joinL_snoc {s p : List Nat} : ∀ {ps : List (List Nat)}, ps ≠ [] → TL.joinL s (ps ++ [p]) = TL.joinL s ps ++ (s ++ p)
  | [], h => absurd rfl h
  | [q], _ => rfl
  | q :: r :: t, _ => by
    show q ++ (s ++ TL.joinL s ((r :: t) ++ [p])) = (q ++ (s ++ TL.joinL s (r :: t))) ++ (s ++ p)
    rw [joinL_snoc (by simp)]
    simp
section
variable {H : Hp} {Q : VK} {K : PySem.W.Frag}
theorem r_strN {i : Int} (h0 : 0 ≤ i) (h1 : i < 1000000) (q : Q (.str (SX.S (nu i))) H) : rStrU [.int i] H Q := by
  refine r_str ?_ ?_
  · have : i.natAbs < 2 ^ 1920 := Nat.lt_of_lt_of_le (show i.natAbs < 2 ^ 20 by omega) (Nat.pow_le_pow_right (by decide) (by decide))
    by_cases hz : i.natAbs = 0
    · rw [hz]; decide
    · exact (Nat.log2_lt hz).mpr this
  · rw [show (toString i : Str) = SX.S (nu i) from str_nu h0]
    exact q
theorem r_joinS {a : List Nat} {p : Addr} {ys : List (List Nat)} (h : Sq K H p ((ys.map SX.S).map V.str)) (z : (ys.map (·.length)).sum + ys.length * a.length ≤ 16777216) (q : Q (.str (SX.S (TL.joinL a ys))) H) : rJoin K (.str (SX.S a)) [.ref p] H Q := by
  refine r_join h ?_ ?_
  · rw [SX.lens, List.length_map, SX.S_len]; exact z
  · rw [SX.join_S]; exact q
theorem r_addT {a b : List Nat} (h : a.length + b.length ≤ 1000000) (q : Q (.str (SX.S (a ++ b))) H) : rAddU K (.str (SX.S a)) (.str (SX.S b)) H Q :=
  r_addS (by rw [SX.S_len, SX.S_len]; exact szl h) (by rw [SX.S_cat]; exact q)
theorem r_eqSS {a b : List Nat} (q : Q (.bl (decide (a = b))) H) : rEqU K (.str (SX.S a)) (.str (SX.S b)) H Q := by
  refine r_eqT ?_
  by_cases h : a = b
  · rw [decide_eq_true h] at q; rw [decide_eq_true (by rw [h])]; exact q
  · rw [decide_eq_false h] at q; rw [decide_eq_false fun e => h (SX.S_inj e)]; exact q
theorem r_neSS {a b : List Nat} (q : Q (.bl (!decide (a = b))) H) : rNeU K (.str (SX.S a)) (.str (SX.S b)) H Q := by
  refine r_neT ?_
  by_cases h : a = b
  · rw [decide_eq_true h] at q; rw [decide_eq_true (by rw [h])]; exact q
  · rw [decide_eq_false h] at q; rw [decide_eq_false fun e => h (SX.S_inj e)]; exact q
/-- x[:i] of a text -/
theorem r_slTo {a : List Nat} {i : Int} (h : a.length ≤ 1000000) (h0 : 0 ≤ i) (q : Q (.str (SX.S (a.take i.toNat))) H) : rSlU K (.str (SX.S a)) none (some i) H Q :=
  r_slS (by rw [SX.S_len]; exact szl h) (by rw [SX.slice_to h0]; exact q)
theorem r_slFrom {a : List Nat} {i : Int} (h : a.length ≤ 1000000) (h0 : 0 ≤ i) (q : Q (.str (SX.S (a.drop i.toNat))) H) : rSlU K (.str (SX.S a)) (some i) none H Q :=
  r_slS (by rw [SX.S_len]; exact szl h) (by rw [SX.slice_from h0]; exact q)
theorem r_splitL {ls : List (List Nat)} (h : ls ≠ []) (k : ∀ l ∈ ls, 10 ∉ l) (z : (TL.joinL [10] ls).length ≤ 1000000) (q : ∀ p, H p = none → Q (.ref p) (upd H p (.lst ((ls.map SX.S).map V.str)))) :
    (∃ z, V.str (SX.S (TL.joinL [10] ls)) = .str z) ∧ rSplit (.str (SX.S (TL.joinL [10] ls))) [.str (SX.S [10])] H Q := by
  refine r_split (by decide) (by rw [SX.S_len, sizeLine_eq]; omega) fun p hp => ?_
  rw [split_lines h k]
  exact q p hp
theorem r_splitR {ns : List Int} (h : ns ≠ []) (z : (rowL ns).length ≤ 1000000) (q : ∀ p, H p = none → Q (.ref p) (upd H p (.lst (((ns.map nu).map SX.S).map V.str)))) :
    (∃ z, V.str (SX.S (rowL ns)) = .str z) ∧ rSplit (.str (SX.S (rowL ns))) [.str (SX.S [32])] H Q := by
  refine r_split (by decide) (by rw [SX.S_len, sizeLine_eq]; omega) fun p hp => ?_
  rw [split_row h]
  exact q p hp
/-- over a new list that an expression gives -/
def RItl (K : PySem.W.Frag) (R : It → Hp → Prop) : VK := fun v H1 => ∃ a, v = .ref a ∧ (∃ xs, SqL K H1 a xs) ∧ R (Itl K a) H1
theorem r_iseqM {tl : TE} {σ : L2.St} {R : It → Hp → Prop} (q : tl σ H (RItl K R)) : iSeq K tl σ H R := .inl q
theorem r_itl {R : It → Hp → Prop} {a : Addr} {xs : List V} {H1 : Hp} (h : SqL K H1 a xs) (q : ∀ (J : It) (G : Hp → Prop), (∀ H', Same H1 H' → G H') → Walk J xs.length G (YAt xs) → R J H1) :
    RItl K R (.ref a) H1 := ⟨a, rfl, ⟨xs, h⟩, q _ _ (fun H' s => SqL.ext h s) walk_list⟩
def RIte (K : PySem.W.Frag) (R : It → Hp → Prop) : List V → Hp → Prop := fun vs H1 => ∃ a xs, vs = [.ref a] ∧ SqL K H1 a xs ∧ R (Ite K a) H1
theorem r_ienumM {ta : TA} {σ : L2.St} {R : It → Hp → Prop} (q : ta σ H (RIte K R)) : iEnumU K ta σ H R := .inl q
theorem r_ite {R : It → Hp → Prop} {a : Addr} {xs : List V} {H1 : Hp} (h : SqL K H1 a xs) (q : ∀ (J : It) (G : Hp → Prop), (∀ H', Same H1 H' → G H') → Walk J xs.length G (YPair (fun i => some (.int (i : Nat))) (fun i => xs[i]?)) → R J H1) :
    RIte K R [.ref a] H1 := ⟨a, xs, rfl, h, q _ _ (fun H' s => SqL.ext h s) walk_enum⟩
end
theorem none_same {H H' : Hp} {a : Addr} (s : Same H H') (h : H' a = none) : H a = none := by
  cases e : H a with
  | none => rfl
  | some u => rw [s _ _ e] at h; cases h
theorem S_dec {a b : List Nat} : decide (SX.S a = SX.S b) = decide (a = b) := by
  by_cases h : a = b
  · rw [decide_eq_true h, decide_eq_true (by rw [h])]
  · rw [decide_eq_false h, decide_eq_false fun e => h (SX.S_inj e)]
end Pg

namespace Pg
open PySem PySem.Spec PyProof.Rows L2
theorem sIx_n (n d k : Nat) : HT.sIx n d (some (k : Int)) = min k n := HT.sIx_nat n d k
theorem cutV_mid (xs : List V) (a b : Nat) : cutV xs (some (a : Int)) (some (b : Int)) = (xs.drop a).take (b - a) := by
  unfold cutV
  rw [sIx_n, sIx_n]
  refine List.ext_getElem? fun j => ?_
  rw [List.getElem?_take, List.getElem?_take, List.getElem?_drop, List.getElem?_drop]
  by_cases h : min a xs.length + j < xs.length
  · have h1 : min a xs.length = a := by omega
    rw [h1]
    by_cases h2 : j < b - a
    · rw [if_pos h2, if_pos (by omega)]
    · rw [if_neg h2, if_neg (by omega)]
  · rw [List.getElem?_eq_none (by omega), List.getElem?_eq_none (by omega)]
    simp
theorem cutV_to (xs : List V) (b : Nat) : cutV xs none (some (b : Int)) = xs.take b := by
  unfold cutV
  rw [sIx_n, HT.sIx_none, List.drop_zero, Nat.sub_zero, List.take_eq_take_iff]
  omega
theorem cutV_from (xs : List V) (a : Nat) : cutV xs (some (a : Int)) none = xs.drop a := by
  unfold cutV
  rw [sIx_n, HT.sIx_none]
  refine List.ext_getElem? fun j => ?_
  rw [List.getElem?_take, List.getElem?_drop, List.getElem?_drop]
  by_cases h : min a xs.length + j < xs.length
  · have h1 : min a xs.length = a := by omega
    rw [h1, if_pos (by omega)]
  · rw [List.getElem?_eq_none (by omega), List.getElem?_eq_none (by omega)]
    simp
theorem atI_app {α : Type} {xs ys : List α} {v : α} : atI (xs ++ v :: ys) (xs.length : Int) = some v := atI_nat (by simp)
theorem flat_ints (ns : List Int) : (ns.map V.int).all flatV = true := by simp [flatV]
theorem none_in_ints (ns : List Int) : inV .non (ns.map V.int) = false := by simp [inV, eqV]
section
variable {H : Hp} {K : PySem.W.Frag}
theorem r_appI {l : Addr} {xs : List V} {y : V} {Q : VK} (h : H l = some (.lst xs)) (z : xs.length ≤ 100000) (q : Q .non (upd H l (.lst (xs ++ [y])))) : rAppend (.ref l) [y] H Q := r_app h (by rw [sizeLine_eq]; omega) q
/-- a name that is known to hold a list -/
theorem ne_obj {a b : Addr} {u v : HO} (h : H a = some u) (k : H b = some v) (n : u ≠ v) : a ≠ b := by
  rintro rfl
  rw [h] at k
  exact n (Option.some.inj k)
theorem r_itlX {R : It → Hp → Prop} {a : Addr} {xs : List V} {H1 : Hp} (h : SqL K H1 a xs) (q : Walk (Itl K a) xs.length (fun H => SqL K H a xs) (YAt xs) → R (Itl K a) H1) : RItl K R (.ref a) H1 := ⟨a, rfl, ⟨xs, h⟩, q walk_list⟩
theorem r_iteX {R : It → Hp → Prop} {a : Addr} {xs : List V} {H1 : Hp} (h : SqL K H1 a xs) (q : Walk (Ite K a) xs.length (fun H => SqL K H a xs) (YPair (fun i => some (.int (i : Nat))) (fun i => xs[i]?)) → R (Ite K a) H1) :
    RIte K R [.ref a] H1 := ⟨a, xs, rfl, h, q walk_enum⟩
end
end Pg

namespace Pg
open PySem PySem.Spec PyProof.Rows L2
/-- x is True, x is False -/
def rIsBU : R2 := fun x y H Q => ∃ b, y = .bl b ∧ ((∃ a, x = .bl a ∧ Q (.bl (decide (a = b))) H) ∨ (((∃ i, x = .int i) ∨ ∃ z, x = .str z) ∧ Q (.bl false) H))
theorem op_isBU {X : Cx} : OpR X (compareOp .Is) rIsBU := by
  intro pins s σ H x y v u Q I rx ry h
  obtain ⟨b, rfl, ⟨a, rfl, q⟩ | ⟨⟨i, rfl⟩ | ⟨z, rfl⟩, q⟩⟩ := h
  · exact op_isBl pins s σ H _ _ v u Q I rx ry ⟨a, b, rfl, rfl, q⟩
  · obtain ⟨t, rfl⟩ := rx
    cases (show u = Value.bool b from ry)
    exact wpAny_is_other rfl (fun z => by cases z) ⟨.bl false, H, I, rfl, q⟩
  · obtain ⟨t, rfl⟩ := rx
    cases (show u = Value.bool b from ry)
    exact wpAny_is_other rfl (fun z => by cases z) ⟨.bl false, H, I, rfl, q⟩
section
variable {K : PySem.W.Frag} {H : Hp} {Q : VK}
theorem r_isB {a b : Bool} (q : Q (.bl (decide (a = b))) H) : rIsBU (.bl a) (.bl b) H Q := ⟨b, rfl, .inl ⟨a, rfl, q⟩⟩
theorem r_isBI {i : Int} {b : Bool} (q : Q (.bl false) H) : rIsBU (.int i) (.bl b) H Q := ⟨b, rfl, .inr ⟨.inl ⟨i, rfl⟩, q⟩⟩
theorem r_isBS {z : Str} {b : Bool} (q : Q (.bl false) H) : rIsBU (.str z) (.bl b) H Q := ⟨b, rfl, .inr ⟨.inr ⟨z, rfl⟩, q⟩⟩
theorem ty_L {a : Addr} {xs : List V} (h : SqL K H a xs) : TyX K H (.ref a) (.type "list") := by
  rcases h with (h | ⟨o, h⟩) | ⟨o, its, n, e, c, _⟩
  · exact .base (.lst h)
  · exact .base (.frz h)
  · exact .kList e c
theorem ty_T {a : Addr} {xs : List V} (h : SqT K H a xs) : TyX K H (.ref a) (.type "tuple") := by
  rcases h with (h | ⟨o, h⟩) | ⟨o, its, n, e, c, _⟩
  · exact .base (.tup h)
  · exact .fTuple h
  · exact .kTuple e c
end
theorem r_isi2N {K : PySem.W.Frag} {H : Hp} {Q : VK} {x : V} {n T1 T2 : String} {p : Addr} (hp : H p = some (.tup [.ty T1, .ty T2])) (ty : TyX K H x (.type n)) (e1 : kitB n T1 = some false) (e2 : kitB n T2 = some false) (q : Q (.bl false) H) : rIsiU K [x, .ref p] H Q :=
  r_isi2 hp ty e1 e2 q
theorem r_isi2Y {K : PySem.W.Frag} {H : Hp} {Q : VK} {x : V} {n T1 T2 : String} {b1 b2 : Bool} {p : Addr} (hp : H p = some (.tup [.ty T1, .ty T2])) (ty : TyX K H x (.type n)) (e1 : kitB n T1 = some b1) (e2 : kitB n T2 = some b2) (h : (b1 || b2) = true) (q : Q (.bl true) H) : rIsiU K [x, .ref p] H Q :=
  r_isi2 hp ty e1 e2 (by rw [h]; exact q)
/-- zip of two lists, of two tuples -/
theorem walk_zipT {K : PySem.W.Frag} {a b : Addr} {xs ys : List V} {n : Nat} (hn : n = min xs.length ys.length) : Walk (RZ.ItzT K a b) n (fun H => SqT K H a xs ∧ SqT K H b ys) (YPair (fun i => xs[i]?) (fun i => ys[i]?)) := by
  subst hn
  refine ⟨fun i _ hi q => ?_, fun _ q => ⟨xs, ys, q.1, q.2, by omega⟩, fun i H v H' _ q y => ?_⟩
  · have h1 : i < xs.length := by omega
    have h2 : i < ys.length := by omega
    exact ⟨xs, ys, xs[i], ys[i], q.1, q.2, List.getElem?_eq_getElem h1, List.getElem?_eq_getElem h2⟩
  · obtain ⟨T, x, y, h1, h2, h3, h4, h5⟩ := y
    exact ⟨T, x, y, h1, h2, h3, h4 xs q.1, h5 ys q.2⟩
theorem r_izipL {K : PySem.W.Frag} {σ : L2.St} {H : Hp} {R : It → Hp → Prop} {v v' : Nat} {a b : Addr} {xs ys : List V} (ha : SqL K H a xs) (hb : SqL K H b ys) (ea : σ[v]? = some (some (.ref a))) (eb : σ[v']? = some (some (.ref b))) (hl : ys.length = xs.length)
    (q : ∀ (J : It) (G : Hp → Prop), (∀ H', Same H H' → G H') → Walk J xs.length G (YPair (fun i => xs[i]?) (fun i => ys[i]?)) → R J H) : RZ.iZipA K (tCons (tVar v) (tCons (tVar v') tNil)) σ H R :=
  ⟨_, ea, _, eb, a, b, xs, ys, rfl, .inl ⟨ha, hb, q _ _ (fun H' s => ⟨SqL.ext ha s, SqL.ext hb s⟩) (walk_zip (by omega))⟩⟩
theorem r_izipT {K : PySem.W.Frag} {σ : L2.St} {H : Hp} {R : It → Hp → Prop} {v v' : Nat} {a b : Addr} {xs ys : List V} (ha : SqT K H a xs) (hb : SqT K H b ys) (ea : σ[v]? = some (some (.ref a))) (eb : σ[v']? = some (some (.ref b))) (hl : ys.length = xs.length)
    (q : ∀ (J : It) (G : Hp → Prop), (∀ H', Same H H' → G H') → Walk J xs.length G (YPair (fun i => xs[i]?) (fun i => ys[i]?)) → R J H) : RZ.iZipA K (tCons (tVar v) (tCons (tVar v') tNil)) σ H R :=
  ⟨_, ea, _, eb, a, b, xs, ys, rfl, .inr ⟨ha, hb, q _ _ (fun H' s => ⟨SqT.ext ha s, SqT.ext hb s⟩) (walk_zipT (by omega))⟩⟩
/-! ### a def that calls itself: level by level -/
section
variable {P : Program} {w : World} {K : PySem.W.Frag} {mg : Str → Option Value} {base : Heap}
/-- nothing promised, at level 0 -/
theorem cl_zero {x : Str} {st : Stmt} {f : Addr} {fd : FuncData} {ps : List Str} {sp : Sp} (F : At K mg x st [] [] f fd)
    (hb : ∀ (kV doc pm : Value) (an : Option Addr) (cdv ct : Value) (us : List Value), us.length = ps.length → bindArgs (PySem.W.fnOf x x (defArgs st) (defBody st) (defScope st) .none kV doc pm an cdv ct) ⟨us, []⟩ = pure (ps.zip us))
    (no : ∀ vs H Q E, ¬ sp vs H Q E) : Cl P w K mg base 0 x sp [] :=
  ⟨f, fd, ps, [], ⟨fun vs H Q E h => (no vs H Q E h).elim, fun A outer s H args us vs Q E hr he hb hv h => (no vs H Q E h).elim⟩, F.mgf, F.fn.kp, F.fn.bindsN hb, .nil⟩
end
/-! ### the same data: depth -/
/-- what _law_same takes: equal data -/
def Sd (K : PySem.W.Frag) (H : Hp) : Nat → V → V → Prop
  | 0, _, _ => False
  | m + 1, u, v => (u = v ∧ flatV u = true) ∨ ∃ a b xs ys, u = .ref a ∧ v = .ref b ∧ ((SqL K H a xs ∧ SqL K H b ys) ∨ (SqT K H a xs ∧ SqT K H b ys)) ∧ Paired (Sd K H m) xs ys
theorem Sd.flat {K : PySem.W.Frag} {H : Hp} {m : Nat} {u : V} (h : flatV u = true) : Sd K H (m + 1) u u := .inl ⟨rfl, h⟩
theorem Sd.lst {K : PySem.W.Frag} {H : Hp} {m : Nat} {a b : Addr} {xs ys : List V} (ha : SqL K H a xs) (hb : SqL K H b ys) (h : Paired (Sd K H m) xs ys) : Sd K H (m + 1) (.ref a) (.ref b) := .inr ⟨a, b, xs, ys, rfl, rfl, .inl ⟨ha, hb⟩, h⟩
theorem Sd.tup {K : PySem.W.Frag} {H : Hp} {m : Nat} {a b : Addr} {xs ys : List V} (ha : SqT K H a xs) (hb : SqT K H b ys) (h : Paired (Sd K H m) xs ys) : Sd K H (m + 1) (.ref a) (.ref b) := .inr ⟨a, b, xs, ys, rfl, rfl, .inr ⟨ha, hb⟩, h⟩
theorem Sd.same {K : PySem.W.Frag} {H H' : Hp} (s : Same H H') : ∀ {m : Nat} {u v : V}, Sd K H m u v → Sd K H' m u v
  | 0, _, _, h => h.elim
  | m + 1, _, _, h => by
    rcases h with h | ⟨a, b, xs, ys, e1, e2, h, p⟩
    · exact .inl h
    · exact .inr ⟨a, b, xs, ys, e1, e2, h.imp (fun h => ⟨SqL.ext h.1 s, SqL.ext h.2 s⟩) (fun h => ⟨SqT.ext h.1 s, SqT.ext h.2 s⟩), Paired.mapP p fun _ _ q => Sd.same s q⟩
theorem Sd.up {K : PySem.W.Frag} {H : Hp} : ∀ {m : Nat} {u v : V}, Sd K H m u v → Sd K H (m + 1) u v
  | 0, _, _, h => h.elim
  | m + 1, _, _, h => by
    rcases h with h | ⟨a, b, xs, ys, e1, e2, h, p⟩
    · exact .inl h
    · exact .inr ⟨a, b, xs, ys, e1, e2, h, Paired.mapP p fun _ _ q => Sd.up q⟩
theorem paired_flat {K : PySem.W.Frag} {H : Hp} {m : Nat} : ∀ {xs : List V}, xs.all flatV = true → Paired (Sd K H (m + 1)) xs xs
  | [], _ => .nil
  | x :: xs, h => by
    simp only [List.all_cons, Bool.and_eq_true] at h
    exact .cons (Sd.flat h.1) (paired_flat h.2)
def spSame (K : PySem.W.Frag) (m : Nat) : Sp := fun vs H Q _ => ∃ u v, vs = [u, v] ∧ Sd K H m u v ∧ ∀ H', Same H H' → Q (.bl true) H'
end Pg

namespace Pg
open PySem PySem.Spec PyProof.Rows L2
/-! ### the draws' box, what else stays -/
/-- what a draw's box is -/
def Bx (H : Hp) (b : Addr) : Prop := ∃ g s : Int, H b = some (.lst [.int g, .int s])
/-- all but the box at b stays, the box stays a box -/
structure Sb (b : Addr) (H H' : Hp) : Prop where
  kp : ∀ a u, a ≠ b → H a = some u → H' a = some u
  bx : Bx H b → Bx H' b
theorem Sb.refl {b : Addr} (H : Hp) : Sb b H H := ⟨fun _ _ _ e => e, fun e => e⟩
theorem Sb.trans {b : Addr} {H H1 H2 : Hp} (s : Sb b H H1) (t : Sb b H1 H2) : Sb b H H2 := ⟨fun a u n e => t.kp a u n (s.kp a u n e), fun e => t.bx (s.bx e)⟩
theorem Bx.same {b : Addr} {H H' : Hp} (s : Same H H') (h : Bx H b) : Bx H' b := by
  obtain ⟨g, t, e⟩ := h
  exact ⟨g, t, s _ _ e⟩
theorem Sb.of {b : Addr} {H H' : Hp} (s : Same H H') : Sb b H H' := ⟨fun a u _ e => s a u e, fun h => h.same s⟩
theorem Sb.box {b : Addr} {H : Hp} {g s : Int} : Sb b H (upd H b (.lst [.int g, .int s])) := ⟨fun a u n e => by rw [upd_ne n]; exact e, fun _ => ⟨g, s, upd_same⟩⟩
theorem Bx.ne {b a : Addr} {H : Hp} (h : Bx H b) (e : H a = none) : a ≠ b := by
  rintro rfl
  obtain ⟨g, s, q⟩ := h
  rw [q] at e; cases e
theorem Sb.upd {b a : Addr} {H H' : Hp} {o : HO} (s : Sb b H H') (h : Bx H b) (e : H a = none) : Sb b H (L2.upd H' a o) := by
  have n := h.ne e
  refine ⟨fun c u nc q => ?_, fun hb => ?_⟩
  · rw [upd_ne (ne_of_none q e)]; exact s.kp c u nc q
  · obtain ⟨g, t, q⟩ := s.bx hb
    exact ⟨g, t, by rw [upd_ne n.symm]; exact q⟩
theorem Sb.fresh {b a : Addr} {H H' : Hp} (s : Sb b H H') (h : Bx H b) (e : H' a = none) : H a = none := by
  cases q : H a with
  | none => rfl
  | some u =>
    by_cases n : a = b
    · subst n
      obtain ⟨g, t, z⟩ := s.bx h
      rw [z] at e; cases e
    · rw [s.kp a u n q] at e; cases e
section
variable {K : PySem.W.Frag} {b : Addr} {H H' : Hp}
theorem SqL.sb {a : Addr} {xs : List V} (s : Sb b H H') (n : a ≠ b) (h : SqL K H a xs) : SqL K H' a xs := by
  rcases h with (h | ⟨o, h⟩) | h
  · exact .inl (.inl (s.kp _ _ n h))
  · exact .inl (.inr ⟨o, s.kp _ _ n h⟩)
  · exact .inr h
theorem SqT.ne {a : Addr} {xs : List V} (hb : Bx H b) (h : SqT K H a xs) (e : a = b) : ∃ o its n, K.lookup a = some o ∧ o.cls = .type "tuple" ∧ o.data = .seq its n := by
  subst e
  obtain ⟨g, t, z⟩ := hb
  rcases h with (h | ⟨o, h⟩) | ⟨o, its, n, e1, e2, e3, _⟩
  · rw [z] at h; cases h
  · rw [z] at h; cases h
  · exact ⟨o, its, n, e1, e2, by simpa using e3⟩
theorem SqT.sb {a : Addr} {xs : List V} (s : Sb b H H') (hb : Bx H b) (h : SqT K H a xs) : SqT K H' a xs := by
  rcases h with (h | ⟨o, h⟩) | h
  · have n : a ≠ b := by
      rintro rfl
      obtain ⟨g, t, z⟩ := hb
      rw [z] at h; cases h
    exact .inl (.inl (s.kp _ _ n h))
  · have n : a ≠ b := by
      rintro rfl
      obtain ⟨g, t, z⟩ := hb
      rw [z] at h; cases h
    exact .inl (.inr ⟨o, s.kp _ _ n h⟩)
  · exact .inr h
theorem Sq.sb {a : Addr} {xs : List V} (s : Sb b H H') (hb : Bx H b) (n : a ≠ b) (h : Sq K H a xs) : Sq K H' a xs := h.imp (fun h => SqL.sb s n h) fun h => SqT.sb s hb h
end
/-! ### comprehensions that draw -/
section
variable {J : It} {n : Nat} {G : Hp → Prop} {Y : Nat → Hp → V → Hp → Prop} {g : TG} {tt : TT} {te : TE} {vs : List Nat} {σ : L2.St} {H1 : Hp} {D b : Addr} {Qd : Hp → Prop}
theorem lc_accB (w : Walk J n G Y) (hb : Bx H1 b) (hD : H1 D = none) (hz : n ≤ 1000000) (hG : ∀ H', Sb b H1 H' → G H')
    (Acc : Nat → List V → Hp → Prop) (m2 : ∀ i ys Ha us zs, Ha D = some (.lst us) → Acc i ys Ha → Acc i ys (upd Ha D (.lst zs)))
    (h0 : ∀ H', Sb b H1 H' → Acc 0 [] H')
    (step : ∀ i x ys H' H'', i < n → Sb b H1 H' → Bx H' b → H' D = some (.lst ys) → Acc i ys H' → Y i H' x H'' → ∀ (N1 : VK) (N0 : Hp → Prop),
      (∀ y H4, Sb b H' H4 → Acc (i + 1) (ys ++ [y]) H4 → N1 y H4) → (∀ H3, Sb b H' H3 → Acc (i + 1) ys H3 → N0 H3) →
      g x (wipe σ vs) H'' fun σ2 H2 => wipe σ2 vs = wipe σ vs ∧ tt σ2 H2 fun b H3 => if b = true then te σ2 H3 N1 else N0 H3)
    (fin : ∀ H' ys, Sb b H1 H' → Bx H' b → H' D = some (.lst ys) → Acc n ys H' → Qd H') : LcAsk J g tt te vs σ H1 D Qd := by
  have nD := hb.ne hD
  refine lc_it w (fun i H' => ∃ ys, H' D = some (.lst ys) ∧ ys.length ≤ i ∧ Sb b H1 H' ∧ Acc i ys H') ?_ ?_ ?_ ?_
  · have s : Sb b H1 (upd H1 D (.lst [])) := (Sb.refl H1).upd hb hD
    exact ⟨[], upd_same, Nat.le_refl _, s, h0 _ s⟩
  · rintro i H' _ ⟨ys, _, _, s, _⟩
    exact hG _ s
  · rintro i x H' H'' hi ⟨ys, hd, hl, s, a⟩ y
    refine step i x ys H' H'' hi s (s.bx hb) hd a y _ _ (fun z H4 s4 a4 => ?_) (fun H3 s3 a3 => ?_)
    · have hd4 := s4.kp _ _ nD hd
      refine ⟨ys, hd4, ?_, ys ++ [z], upd_same, by simp; omega, (s.trans s4).upd hb hD, m2 _ _ _ _ _ hd4 a4⟩
      rw [sizeLine_eq]; omega
    · exact ⟨ys, s3.kp _ _ nD hd, by omega, s.trans s3, a3⟩
  · rintro H' ⟨ys, hd, _, s, a⟩
    exact fin H' ys s (s.bx hb) hd a
/-- whole numbers, each as P says -/
theorem lc_ints {v : Nat} (P : Int → Prop) (w : Walk J n G Y) (hb : Bx H1 b) (hD : H1 D = none) (hz : n ≤ 1000000) (hG : ∀ H', Sb b H1 H' → G H')
    (step : ∀ i x H' H'', i < n → Sb b H1 H' → Bx H' b → Y i H' x H'' → ∀ N1 : VK, (∀ z H4, Sb b H' H4 → P z → N1 (.int z) H4) → te ((σ.set v none).set v (some x)) H'' N1)
    (fin : ∀ (H' : Hp) (ns : List Int), Sb b H1 H' → Bx H' b → H' D = some (.lst (ns.map V.int)) → ns.length = n → (∀ z ∈ ns, P z) → Qd H') : LcAsk J (gName v) tYes te [v] σ H1 D Qd := by
  refine lc_accB w hb hD hz hG (fun i ys _ => ∃ ns : List Int, ys = ns.map V.int ∧ ns.length = i ∧ ∀ z ∈ ns, P z) (fun _ _ _ _ _ _ h => h) (fun _ _ => ⟨[], rfl, rfl, fun _ h => by simp at h⟩) ?_ ?_
  · rintro i x ys H' H'' hi s hb' hd ⟨ns, rfl, hl, hp⟩ y N1 N0 k1 _
    refine ⟨?_, ?_⟩
    · show ((wipe σ [v]).set v (some x)).set v none = wipe σ [v]
      simp [wipe]
    · show (if true = true then te ((wipe σ [v]).set v (some x)) H'' N1 else N0 H'')
      rw [if_pos rfl]
      refine step i x H' H'' hi s hb' y N1 fun z H4 s4 pz => k1 _ H4 s4 ⟨ns ++ [z], by simp, by simp [hl], fun u hu => ?_⟩
      rcases List.mem_append.mp hu with h | h
      · exact hp u h
      · rw [List.mem_singleton.mp h]; exact pz
  · rintro H' ys s hb' hd ⟨ns, rfl, hl, hp⟩
    exact fin H' ns s hb' hd hl hp
end
/-! ### rows -/
/-- lists of whole numbers, each at its own place, none at av -/
structure Rw (av : List Addr) (H : Hp) (rs : List V) (ts : List (List Int)) : Prop where
  at_ : Paired (fun (r : V) (t : List Int) => ∃ c, r = .ref c ∧ c ∉ av ∧ H c = some (.lst (t.map V.int))) rs ts
  nd : rs.Nodup
section
variable {av : List Addr} {H H' : Hp} {rs : List V} {ts : List (List Int)} {b c d : Addr}
theorem Rw.len (h : Rw av H rs ts) : rs.length = ts.length := paired_len h.at_
theorem Rw.nil : Rw av H [] [] := ⟨.nil, .nil⟩
theorem Rw.upd {o : HO} (h : Rw av H rs ts) (m : d ∈ av) : Rw av (L2.upd H d o) rs ts :=
  ⟨Paired.mapP h.at_ fun r t ⟨c, e, n, q⟩ => ⟨c, e, n, by rw [upd_ne (show c ≠ d from fun z => n (z ▸ m))]; exact q⟩, h.nd⟩
theorem Rw.sb (s : Sb b H H') (m : b ∈ av) (h : Rw av H rs ts) : Rw av H' rs ts :=
  ⟨Paired.mapP h.at_ fun r t ⟨c, e, n, q⟩ => ⟨c, e, n, s.kp _ _ (fun z => n (z ▸ m)) q⟩, h.nd⟩
theorem Rw.same (s : Same H H') (h : Rw av H rs ts) : Rw av H' rs ts := ⟨Paired.mapP h.at_ fun r t ⟨c, e, n, q⟩ => ⟨c, e, n, s _ _ q⟩, h.nd⟩
theorem Rw.more (h : Rw av H rs ts) (e : H d = none) : Rw (d :: av) H rs ts :=
  ⟨Paired.mapP h.at_ fun r t ⟨c, e', n, q⟩ => ⟨c, e', fun z => by
    rcases List.mem_cons.mp z with z | z
    · rw [z, e] at q; cases q
    · exact n z, q⟩, h.nd⟩
theorem Rw.less {av' : List Addr} (h : Rw av H rs ts) (s : ∀ x ∈ av', x ∈ av) : Rw av' H rs ts := ⟨Paired.mapP h.at_ fun r t ⟨c, e, n, q⟩ => ⟨c, e, fun z => n (s _ z), q⟩, h.nd⟩
theorem Rw.snoc {t : List Int} (h : Rw av H rs ts) (e : H c = none) (n : c ∉ av) (s : Sb b H H') (m : b ∈ av) (q : H' c = some (.lst (t.map V.int))) : Rw av H' (rs ++ [.ref c]) (ts ++ [t]) := by
  have h' := h.sb s m
  refine ⟨h'.at_.snoc ⟨c, rfl, n, q⟩, ?_⟩
  rw [List.nodup_append]
  refine ⟨h.nd, by simp, fun x hx y hy => ?_⟩
  rw [List.mem_singleton.mp hy]
  rintro rfl
  obtain ⟨j, hj⟩ := List.getElem?_of_mem hx
  obtain ⟨t', _, c', e1, _, q'⟩ := paired_at h.at_ hj
  cases e1
  rw [e] at q'; cases q'
theorem Rw.get {i : Nat} {t : List Int} (h : Rw av H rs ts) (e : ts[i]? = some t) : ∃ c, rs[i]? = some (.ref c) ∧ c ∉ av ∧ H c = some (.lst (t.map V.int)) := by
  have hi : i < rs.length := by rw [h.len]; exact (List.getElem?_eq_some_iff.mp e).1
  obtain ⟨t', e', c, e1, n, q⟩ := paired_at h.at_ (List.getElem?_eq_getElem hi)
  rw [e] at e'; cases e'
  exact ⟨c, by rw [List.getElem?_eq_getElem hi, e1], n, q⟩
theorem Rw.set {i : Nat} {t' : List Int} (h : Rw av H rs ts) (e : rs[i]? = some (.ref c)) : Rw av (L2.upd H c (.lst (t'.map V.int))) rs (ts.set i t') := by
  refine ⟨paired_of (by simp [h.len]) fun j x hx => ?_, h.nd⟩
  obtain ⟨u, eu, c', e1, n, q⟩ := paired_at h.at_ hx
  by_cases hj : j = i
  · subst hj
    rw [e] at hx; cases hx
    cases e1
    refine ⟨t', ?_, c, rfl, n, upd_same⟩
    rw [List.getElem?_set_self (List.getElem?_eq_some_iff.mp eu).1]
  · refine ⟨u, by rw [List.getElem?_set_ne (Ne.symm hj)]; exact eu, c', e1, n, ?_⟩
    have : c' ≠ c := by
      rintro rfl
      rw [e1] at hx
      have hi := (List.getElem?_eq_some_iff.mp e).1
      exact hj ((List.getElem?_inj (List.getElem?_eq_some_iff.mp hx).1 h.nd).mp (by rw [hx, e]))
    rw [upd_ne this]; exact q
end
section
variable {J : It} {n : Nat} {G : Hp → Prop} {Y : Nat → Hp → V → Hp → Prop} {te : TE} {σ : L2.St} {H1 : Hp} {D b : Addr} {Qd : Hp → Prop}
/-- new rows, the i-th as R says -/
theorem lc_rows {v : Nat} (R : Nat → List Int → Prop) (av : List Addr) (hav : ∀ a ∈ av, H1 a ≠ none) (w : Walk J n G Y) (hb : Bx H1 b) (hD : H1 D = none) (hz : n ≤ 1000000) (hG : ∀ H', Sb b H1 H' → G H')
    (step : ∀ i x H' H'', i < n → Sb b H1 H' → Bx H' b → Y i H' x H'' → ∀ N1 : VK, (∀ c t H4, Sb b H' H4 → H' c = none → H4 c = some (.lst (t.map V.int)) → R i t → N1 (.ref c) H4) → te ((σ.set v none).set v (some x)) H'' N1)
    (fin : ∀ H' rs ts, Sb b H1 H' → Bx H' b → H' D = some (.lst rs) → Rw (D :: b :: av) H' rs ts → (∀ c, V.ref c ∈ rs → H1 c = none) → ts.length = n → (∀ i t, ts[i]? = some t → R i t) → Qd H') : LcAsk J (gName v) tYes te [v] σ H1 D Qd := by
  have hav' : ∀ H', Sb b H1 H' → ∀ a ∈ av, H' a ≠ none := fun H' s a ha e => hav a ha (s.fresh hb e)
  refine lc_accB w hb hD hz hG (fun i ys H => ∃ ts, Rw (D :: b :: av) H ys ts ∧ (∀ c, V.ref c ∈ ys → H1 c = none) ∧ ts.length = i ∧ ∀ i t, ts[i]? = some t → R i t) (fun i ys Ha us zs e ⟨ts, h, r⟩ => ⟨ts, h.upd (by simp), r⟩) (fun _ _ => ⟨[], .nil, fun _ h => by simp at h, rfl, fun _ _ h => by simp at h⟩) ?_ ?_
  · rintro i x ys H' H'' hi s hb' hd ⟨ts, hw, hfr, hl, hp⟩ y N1 N0 k1 _
    refine ⟨?_, ?_⟩
    · show ((wipe σ [v]).set v (some x)).set v none = wipe σ [v]
      simp [wipe]
    · show (if true = true then te ((wipe σ [v]).set v (some x)) H'' N1 else N0 H'')
      rw [if_pos rfl]
      refine step i x H' H'' hi s hb' y N1 fun c t H4 s4 hc hc4 r => k1 _ H4 s4 ⟨ts ++ [t], hw.snoc hc ?_ s4 (by simp) hc4, fun d hd' => ?_, by simp [hl], fun j u hu => ?_⟩
      · intro z
        rcases List.mem_cons.mp z with z | z
        · rw [z, hd] at hc; cases hc
        · rcases List.mem_cons.mp z with z | z
          · exact hb'.ne hc z
          · exact hav' _ s _ z hc
      · rcases List.mem_append.mp hd' with z | z
        · exact hfr d z
        · have e : d = c := by simpa using z
          rw [e]; exact s.fresh hb hc
      · by_cases hj : j < ts.length
        · rw [List.getElem?_append_left hj] at hu
          exact hp j u hu
        · have hj2 : j = ts.length := by
            have := (List.getElem?_eq_some_iff.mp hu).1
            simp at this
            omega
          rw [List.getElem?_append_right (by omega), hj2, Nat.sub_self] at hu
          cases hu
          rw [hj2, hl]; exact r
  · rintro H' ys s hb' hd ⟨ts, hw, hfr, hl, hp⟩
    exact fin H' ys ts s hb' hd hw hfr hl hp
end
section
variable {K : PySem.W.Frag} {H : Hp} {b : Addr}
theorem r_iseqB {v : Nat} {σ : L2.St} {R : It → Hp → Prop} {a : Addr} {xs : List V} (hb : Bx H b) (n : a ≠ b) (h : Sq K H a xs) (e : σ[v]? = some (some (.ref a)))
    (q : ∀ (J : It) (G : Hp → Prop), (∀ H', Sb b H H' → G H') → Walk J xs.length G (YAt xs) → R J H) : iSeq K (tVar v) σ H R := by
  rcases h with h | h
  · exact .inl ⟨_, e, a, rfl, ⟨xs, h⟩, q _ _ (fun H' s => SqL.sb s n h) walk_list⟩
  · exact .inr ⟨_, e, a, rfl, ⟨xs, h⟩, q _ _ (fun H' s => SqT.sb s hb h) walk_tup⟩
end
end Pg

namespace Pg
open PySem PySem.Spec PyProof.Rows L2
/-- a new triple handed to three names -/
theorem r_gtrip {K : PySem.W.Frag} {i j l : Nat} {T : Addr} {x y z : V} {σ : L2.St} {H : Hp} {N : L2.St → Hp → Prop} (h : H T = some (.tup [x, y, z])) (q : N (((σ.set i (some x)).set j (some y)).set l (some z)) H) : gTup K 3 (gCons (gName i) (gCons (gName j) (gCons (gName l) gNil))) (.ref T) σ H N :=
  ⟨T, _, rfl, SqT.of h, rfl, x, [y, z], rfl, y, [z], rfl, z, [], rfl, rfl, q⟩
theorem r_gtripT {K : PySem.W.Frag} {i j l : Nat} {T : Addr} {x y z : V} {σ : L2.St} {H : Hp} {N : L2.St → Hp → Prop} (h : SqT K H T [x, y, z]) (q : N (((σ.set i (some x)).set j (some y)).set l (some z)) H) : gTup K 3 (gCons (gName i) (gCons (gName j) (gCons (gName l) gNil))) (.ref T) σ H N :=
  ⟨T, _, rfl, h, rfl, x, [y, z], rfl, y, [z], rfl, z, [], rfl, rfl, q⟩
section
variable {K : PySem.W.Frag} {H : Hp} {Q : VK}
/-- xs.insert(i, y), xs.pop(i) -/
def rIns : V → List V → Hp → VK → Prop := fun x vs H Q => ∃ (l : Addr) (xs : List V) (i : Int) (y : V), x = .ref l ∧ vs = [.int i, y] ∧ H l = some (.lst xs) ∧ xs.length < sizeLine ∧ 0 ≤ i ∧ i < 2 ^ 63 ∧ Q .non (upd H l (.lst (xs.take i.toNat ++ [y] ++ xs.drop i.toNat)))
theorem mt_ins {X : Cx} : MtR X "list.insert" rIns := mt_insert
theorem r_ins {l : Addr} {xs : List V} {i : Int} {y : V} (h : H l = some (.lst xs)) (z : xs.length ≤ 100000) (h0 : 0 ≤ i) (h1 : i ≤ 1000000) (q : Q .non (upd H l (.lst (xs.take i.toNat ++ [y] ++ xs.drop i.toNat)))) : rIns (.ref l) [.int i, y] H Q :=
  ⟨l, xs, i, y, rfl, rfl, h, by rw [sizeLine_eq]; omega, h0, by omega, q⟩
theorem r_popAt {l : Addr} {xs : List V} {j : Nat} {y : V} (h : H l = some (.lst xs)) (z : xs.length ≤ 100000) (e : xs[j]? = some y) (q : Q y (upd H l (.lst (xs.eraseIdx j)))) : rPopAt (.ref l) [.int (j : Int)] H Q := by
  have hj := (List.getElem?_eq_some_iff.mp e).1
  have e2 : ixN xs.length (j : Int) = some j := by
    unfold ixN
    rw [if_pos (by omega), if_pos (by omega)]
    rfl
  exact ⟨l, xs, j, j, y, rfl, rfl, h, by omega, by omega, (ixN_seq e2).1, e, q⟩
theorem ixN_nat {n j : Nat} (h : j < n) : ixN n (j : Int) = some j := by
  unfold ixN
  rw [if_pos (by omega), if_pos (by omega)]
  rfl
end
/-- two tests joined by and: where they fail, one road -/
theorem r_share {c : Prop} [Decidable c] {X A B : Prop} (h : B → c → X) (b : B) : if decide c = true then X else (if false = true then A else B) := by
  by_cases hc : c
  · rw [if_pos (decide_eq_true hc)]; exact h b hc
  · rw [if_neg (by simp [hc])]; exact b
/-- .. joined by or: where they hold, one road -/
theorem r_shareOr {c : Prop} [Decidable c] {X A B : Prop} (h : A → ¬ c → X) (a : A) : if decide c = true then (if true = true then A else B) else X := by
  by_cases hc : c
  · rw [if_pos (decide_eq_true hc)]; exact a
  · rw [if_neg (by simp [hc])]; exact h a hc
theorem Paired.takeP {α β : Type} {F : α → β → Prop} : ∀ {xs : List α} {ys : List β} (n : Nat), Paired F xs ys → Paired F (xs.take n) (ys.take n)
  | _, _, 0, _ => by simp; exact .nil
  | _, _, n + 1, .nil => by simp; exact .nil
  | _, _, n + 1, .cons q r => .cons q (Paired.takeP n r)
theorem Paired.dropP {α β : Type} {F : α → β → Prop} : ∀ {xs : List α} {ys : List β} (n : Nat), Paired F xs ys → Paired F (xs.drop n) (ys.drop n)
  | _, _, 0, h => h
  | _, _, n + 1, .nil => .nil
  | _, _, n + 1, .cons q r => Paired.dropP n r
theorem Paired.appP {α β : Type} {F : α → β → Prop} : ∀ {xs xs' : List α} {ys ys' : List β}, Paired F xs ys → Paired F xs' ys' → Paired F (xs ++ xs') (ys ++ ys')
  | _, _, _, _, .nil, h => h
  | _, _, _, _, .cons q r, h => .cons q (Paired.appP r h)
end Pg

namespace Pg
open PySem PySem.Spec PyProof.Rows L2
/-- over a new tuple that an expression gives -/
def RItt (K : PySem.W.Frag) (R : It → Hp → Prop) : VK := fun v H1 => ∃ a, v = .ref a ∧ (∃ xs, SqT K H1 a xs) ∧ R (Itt K a) H1
theorem r_iseqMT {K : PySem.W.Frag} {tl : TE} {σ : L2.St} {H : Hp} {R : It → Hp → Prop} (q : tl σ H (RItt K R)) : iSeq K tl σ H R := .inr q
theorem r_ittX {K : PySem.W.Frag} {R : It → Hp → Prop} {a : Addr} {xs : List V} {H1 : Hp} (h : SqT K H1 a xs) (q : Walk (Itt K a) xs.length (fun H => SqT K H a xs) (YAt xs) → R (Itt K a) H1) : RItt K R (.ref a) H1 := ⟨a, rfl, ⟨xs, h⟩, q walk_tup⟩
/-- what follows a loop, shown once -/
theorem r_for_rest {wi : TI} {g : TG} {tb : TS} {D : Ends} {σ : L2.St} {H : Hp} (Pn : L2.St → Hp → Prop) (rest : ∀ σ' H', Pn σ' H' → D.nx σ' H') (q : (∀ σ' H', Pn σ' H' → D.nx σ' H') → tFor wi g tb D σ H) : tFor wi g tb D σ H := q rest
/-- what follows a statement, shown once -/
theorem r_seq_rest {t u : TS} {D : Ends} {σ : L2.St} {H : Hp} (Pn : L2.St → Hp → Prop) (rest : ∀ σ' H', Pn σ' H' → u D σ' H') (q : (∀ σ' H', Pn σ' H' → u D σ' H') → tSeq t u D σ H) : tSeq t u D σ H := q rest
/-- an if without an else: what follows, shown once -/
theorem r_dec_rest {c : Prop} [Decidable c] {t : TS} {D : Ends} {σ : L2.St} {H : Hp} (Pn : L2.St → Hp → Prop) (rest : ∀ σ' H', Pn σ' H' → D.nx σ' H') (p : c → (∀ σ' H', Pn σ' H' → D.nx σ' H') → t D σ H) (n : ¬ c → Pn σ H) : if decide c = true then t D σ H else tNext D σ H := by
  by_cases h : c
  · rw [if_pos (decide_eq_true h)]; exact p h rest
  · rw [if_neg (by simp [h])]; exact rest _ _ (n h)
/-- another value in its place -/
theorem turn_ne {x r n : Int} (h0 : 0 ≤ x) (h1 : x < n) (r0 : 0 ≤ r) (r1 : r < n - 1) : (x + 1 + r) % n ≠ x := by
  by_cases h : x + 1 + r < n
  · rw [Int.emod_eq_of_lt (by omega) h]; omega
  · have e : (x + 1 + r) % n = x + 1 + r - n := by
      rw [show x + 1 + r = (x + 1 + r - n) + n by omega, Int.add_emod_right, Int.emod_eq_of_lt (by omega) (by omega)]
      omega
    rw [e]; omega
abbrev kinds : List String := ["int", "bool", "str", "list", "tuple", "NoneType"]
/-- an own class and the built-in kinds -/
structure Ko (K : PySem.W.Frag) (C : Addr) : Prop where
  ko : ∀ t ∈ kinds, PySem.W.kitOne K (.type t) (.ref C) = some false
  nf : ∀ t ∈ kinds, PySem.W.notFirst K C (.type t) = true
  si : PySem.W.subIn K (.ref C) (.type "int") = some false
/-- an instance of C is none of D -/
structure Kx (K : PySem.W.Frag) (C D : Addr) : Prop where
  ko : PySem.W.kitOne K (.ref C) (.ref D) = some false
  nf : PySem.W.notFirst K D (.ref C) = true
def KoB (K : PySem.W.Frag) (C : Addr) : Bool := kinds.all (fun t => decide (PySem.W.kitOne K (.type t) (.ref C) = some false)) && (kinds.all (fun t => PySem.W.notFirst K C (.type t)) && decide (PySem.W.subIn K (.ref C) (.type "int") = some false))
def KxB (K : PySem.W.Frag) (C D : Addr) : Bool := decide (PySem.W.kitOne K (.ref C) (.ref D) = some false) && PySem.W.notFirst K D (.ref C)
theorem KoB.ok {K : PySem.W.Frag} {C : Addr} (h : KoB K C = true) : Ko K C := by
  simp only [KoB, Bool.and_eq_true, List.all_eq_true, decide_eq_true_eq] at h
  exact ⟨h.1, h.2.1, h.2.2⟩
theorem KxB.ok {K : PySem.W.Frag} {C D : Addr} (h : KxB K C D = true) : Kx K C D := by
  simp only [KxB, Bool.and_eq_true, decide_eq_true_eq] at h
  exact ⟨h.1, h.2⟩
theorem Ko.no {K : PySem.W.Frag} {C : Addr} (h : Ko K C) {H : Hp} {y : V} {t : String} (ty : TyX K H y (.type t)) (m : t ∈ kinds) : ∃ t, TyX K H y t ∧ PySem.W.kitOne K t (.ref C) = some false := ⟨_, ty, h.ko t m⟩
end Pg

namespace Pg
open PySem PySem.Spec PyProof.Rows L2
section
variable {P : Program} {w : World} {K : PySem.W.Frag} {mg : Str → Option Value} {base : Heap}
/-- .. whose last parameters have defaults, all given -/
theorem cm_ofD {x qual : Str} {st : Stmt} {C f : Addr} {fd : FuncData} {N ps : List Str} {k : Nat} {sp : Sp} {dvs : List V} (F : FunD K "__init__" qual (defArgs st) (defBody st) (defScope st) dvs [] f fd) (M : Mk K C f) (hg : mg x = some (.ref C)) (S : FnScope N ps (defScope st)) (hd : dvs ≠ [])
    (hb : ∀ (T : Addr) (kV doc pm : Value) (an : Option Addr) (cdv ct : Value) (us its : List Value), us.length = ps.length → its.length = dvs.length → 
      ∃ k, bindArgs (PySem.W.fnOf "__init__" qual (defArgs st) (defBody st) (defScope st) (.ref T) kV doc pm an cdv ct) ⟨us, []⟩ = seqItems? (.ref T) >>= k ∧ k (some its.toArray) = pure (ps.zip (us ++ its.drop dvs.length)))
    (len : ∀ vs H Q E, sp vs H Q E → vs.length = ps.length)
    (body : ∀ (cdv : Value) (A : Around) (outer : List Env) (s : Shared) (H : Hp) (vs : List V) (Q : VK) (E : XK), Room k (A.deeper (envOfC qual (defScope st) s.heap.objs.size f cdv)) → sp vs H Q E →
      ∃ t, PSs (cxOf (L2.CX P w) P w K mg base N qual (defScope st) f cdv A outer s H E).nox (defBody st) t ∧ t { nx := fun _ H' => Q .non H', rt := Q } (start N vs) H) : Cm P w K mg base (k + 1) x C sp [] := by
  obtain ⟨ds, hv, hB⟩ := F.binds1 (ps := ps) ps.length dvs.length hd (by omega) hb
  rw [List.drop_length] at hv
  have e := hv.zero
  subst e
  exact ⟨f, fd, ps, [], M, F.ok S len fun cdv A outer s H vs Q E hr h => let ⟨t, p, q⟩ := body cdv A outer s H vs Q E hr h; ⟨t, p.nox, q⟩, hg, hB, .nil⟩
/-- nothing flies out of a def that promises so -/
theorem fn_to0 {k : Nat} {f : Addr} {fd : FuncData} {ps : List Str} {sp : Sp} (F : FnOk P w K mg base (L2.CX P w) k f fd ps sp) (h : ∀ vs H Q E, sp vs H Q E → sp vs H Q E0) : FnOk P w K mg base L2.CX0 k f fd ps sp :=
  ⟨F.len, fun A outer s H args us vs Q E hr he hb hv hs => codeAny_mono (F.run A outer s H args us vs Q E0 hr he hb hv (h _ _ _ _ hs)) fun o s' ho => by
    rcases o with e | fl
    · obtain ⟨_, _, _, _, _, _, _, _, _, _, _, _, z⟩ := (show L2.CX P w outer H s E0 e s' from ho)
      exact z.elim
    · cases fl <;> exact ho⟩
theorem fn_of' {x : Str} {st : Stmt} {f : Addr} {fd : FuncData} {N ps : List Str} {k : Nat} {sp : Sp} (F : At K mg x st [] [] f fd) (S : FnScope N ps (defScope st))
    (len : ∀ vs H Q E, sp vs H Q E → vs.length = ps.length)
    (body : ∀ (cdv : Value) (A : Around) (outer : List Env) (s : Shared) (H : Hp) (vs : List V) (Q : VK) (E : XK), Room k (A.deeper (envOfC x (defScope st) s.heap.objs.size f cdv)) → sp vs H Q E →
      ∃ t, PSs (cxOf (L2.CX P w) P w K mg base N x (defScope st) f cdv A outer s H E).nox (defBody st) t ∧ t { nx := fun _ H' => Q .non H', rt := Q } (start N vs) H) : FnOk P w K mg base (L2.CX P w) (k + 1) f fd ps sp :=
  F.fn.ok S len fun cdv A outer s H vs Q E hr h => let ⟨t, p, q⟩ := body cdv A outer s H vs Q E hr h; ⟨t, p.nox, q⟩
/-- what isinstance asks of an own class, as a Bool -/
def InsB (K : PySem.W.Frag) (C : Addr) : Bool :=
  decide (PySem.W.findIn K (.ref C) "__class__" = some (some (.builtin "object.__class__"))) && (decide (PySem.W.specialIn K (.builtin "object.__class__") "__get__" = some (some (.builtin "getset_descriptor.__get__"))) &&
    (decide (PySem.W.takesIn K (.builtin "object.__class__") = some true) && (decide (PySem.W.mroIn K C (.type "object") = some true) && decide (PySem.W.kitOne K (.ref C) (.ref C) = some true))))
theorem InsB.ok {C : Addr} (h : InsB K C = true) (c : Cls K C) : C8.InsC K C := by
  simp only [InsB, Bool.and_eq_true, decide_eq_true_eq] at h
  exact ⟨c, h.1, h.2.1, h.2.2.1, h.2.2.2.1, h.2.2.2.2⟩
def NeB (K : PySem.W.Frag) (C : Addr) : Bool := decide (PySem.W.findIn K (.ref C) "__ne__" = some (some (.builtin "object.__ne__")))
theorem NeB.ok {C : Addr} (h : NeB K C = true) : PySem.W.findIn K (.ref C) "__ne__" = some (some (.builtin "object.__ne__")) := of_decide_eq_true h
end
end Pg

namespace P45
open PySem PySem.Spec PyProof.Rows L2 Pg
def top (i : Nat) : Stmt := PySem.Challenge.pw_pagesagain_k45_machines_and_links_side_b.main.body.getD i (.Pass ⟨0, 0, 0, 0⟩)
abbrev s_BadMachine___init__ : Stmt := inClass (top 2) 0
abbrev s_BadText___init__ : Stmt := inClass (top 3) 0
abbrev s_Refused___init__ : Stmt := inClass (top 4) 0
abbrev s_NoState___init__ : Stmt := inClass (top 5) 0
abbrev s_is_integer : Stmt := top 12
abbrev s_is_number : Stmt := top 13
abbrev s_is_below : Stmt := top 14
abbrev s_is_within : Stmt := top 15
abbrev s_is_sequence : Stmt := top 16
abbrev s_is_text : Stmt := top 17
abbrev s_is_table : Stmt := top 19
abbrev s_check_tables : Stmt := top 20
abbrev s_Machine___init__ : Stmt := inClass (top 21) 0
abbrev s_Machine___eq__ : Stmt := inClass (top 21) 1
abbrev s_need_state : Stmt := top 22
abbrev s_Link___init__ : Stmt := inClass (top 24) 0
abbrev s_Link___eq__ : Stmt := inClass (top 24) 1
abbrev s_numbers_text : Stmt := top 29
abbrev s_read_number : Stmt := top 30
abbrev s_read_numbers : Stmt := top 31
abbrev s_machine_text : Stmt := top 32
abbrev s_read_lines : Stmt := top 33
abbrev s_read_machine : Stmt := top 34
abbrev s_link_text : Stmt := top 35
abbrev s_read_link : Stmt := top 36
abbrev s__law_box : Stmt := top 38
abbrev s__law_take : Stmt := top 39
abbrev s__law_pick : Stmt := top 40
abbrev s__law_same : Stmt := top 41
abbrev s__law_tables : Stmt := top 42
abbrev s__law_turned : Stmt := top 43
abbrev s__law_row : Stmt := top 44
abbrev s__law_text : Stmt := top 45
abbrev s__law_alike : Stmt := top 46
abbrev s__law_each_unlike : Stmt := top 47
abbrev s__law_tuples : Stmt := top 48
abbrev s__law_read_right : Stmt := top 49
abbrev s_law : Stmt := top 50
theorem sc_is_integer : FnScope ["value"] ["value"] (defScope s_is_integer) := ⟨rfl, rfl, rfl, by decide +kernel, rfl, by decide +kernel, by decide +kernel⟩
theorem sc_is_number : FnScope ["value"] ["value"] (defScope s_is_number) := ⟨rfl, rfl, rfl, by decide +kernel, rfl, by decide +kernel, by decide +kernel⟩
theorem sc_is_below : FnScope ["value", "most"] ["value", "most"] (defScope s_is_below) := ⟨rfl, rfl, rfl, by decide +kernel, rfl, by decide +kernel, by decide +kernel⟩
theorem sc_is_within : FnScope ["value", "least", "most"] ["value", "least", "most"] (defScope s_is_within) := ⟨rfl, rfl, rfl, by decide +kernel, rfl, by decide +kernel, by decide +kernel⟩
theorem sc_is_sequence : FnScope ["value"] ["value"] (defScope s_is_sequence) := ⟨rfl, rfl, rfl, by decide +kernel, rfl, by decide +kernel, by decide +kernel⟩
theorem sc_is_text : FnScope ["value"] ["value"] (defScope s_is_text) := ⟨rfl, rfl, rfl, by decide +kernel, rfl, by decide +kernel, by decide +kernel⟩
theorem sc_is_table : FnScope ["value", "states", "state"] ["value", "states"] (defScope s_is_table) := ⟨rfl, rfl, rfl, by decide +kernel, rfl, by decide +kernel, by decide +kernel⟩
theorem sc_check_tables : FnScope ["value", "states", "at", "table"] ["value"] (defScope s_check_tables) := ⟨rfl, rfl, rfl, by decide +kernel, rfl, by decide +kernel, by decide +kernel⟩
theorem sc_Machine___init__ : FnScope ["self", "tables"] ["self", "tables"] (defScope s_Machine___init__) := ⟨rfl, rfl, rfl, by decide +kernel, rfl, by decide +kernel, by decide +kernel⟩
theorem sc_Machine___eq__ : FnScope ["self", "other"] ["self", "other"] (defScope s_Machine___eq__) := ⟨rfl, rfl, rfl, by decide +kernel, rfl, by decide +kernel, by decide +kernel⟩
theorem sc_need_state : FnScope ["machine", "state"] ["machine", "state"] (defScope s_need_state) := ⟨rfl, rfl, rfl, by decide +kernel, rfl, by decide +kernel, by decide +kernel⟩
theorem sc_Link___init__ : FnScope ["self", "machine", "first", "length", "loss", "modulus"] ["self", "machine", "first", "length", "loss", "modulus"] (defScope s_Link___init__) := ⟨rfl, rfl, rfl, by decide +kernel, rfl, by decide +kernel, by decide +kernel⟩
theorem sc_Link___eq__ : FnScope ["self", "other"] ["self", "other"] (defScope s_Link___eq__) := ⟨rfl, rfl, rfl, by decide +kernel, rfl, by decide +kernel, by decide +kernel⟩
theorem sc_numbers_text : FnScope ["numbers", "number"] ["numbers"] (defScope s_numbers_text) := ⟨rfl, rfl, rfl, by decide +kernel, rfl, by decide +kernel, by decide +kernel⟩
theorem sc_read_number : FnScope ["word", "most", "number"] ["word", "most"] (defScope s_read_number) := ⟨rfl, rfl, rfl, by decide +kernel, rfl, by decide +kernel, by decide +kernel⟩
theorem sc_read_numbers : FnScope ["line", "most", "word"] ["line", "most"] (defScope s_read_numbers) := ⟨rfl, rfl, rfl, by decide +kernel, rfl, by decide +kernel, by decide +kernel⟩
theorem sc_machine_text : FnScope ["machine", "table"] ["machine"] (defScope s_machine_text) := ⟨rfl, rfl, rfl, by decide +kernel, rfl, by decide +kernel, by decide +kernel⟩
theorem sc_read_lines : FnScope ["lines", "states", "tables", "at", "line", "table"] ["lines"] (defScope s_read_lines) := ⟨rfl, rfl, rfl, by decide +kernel, rfl, by decide +kernel, by decide +kernel⟩
theorem sc_read_machine : FnScope ["text"] ["text"] (defScope s_read_machine) := ⟨rfl, rfl, rfl, by decide +kernel, rfl, by decide +kernel, by decide +kernel⟩
theorem sc_link_text : FnScope ["link", "numbers"] ["link"] (defScope s_link_text) := ⟨rfl, rfl, rfl, by decide +kernel, rfl, by decide +kernel, by decide +kernel⟩
theorem sc_read_link : FnScope ["text", "lines", "ends", "last", "machine", "numbers", "link", "at", "line"] ["text"] (defScope s_read_link) := ⟨rfl, rfl, rfl, by decide +kernel, rfl, by decide +kernel, by decide +kernel⟩
theorem sc__law_box : FnScope ["script", "k", "cell", "great"] ["script", "k"] (defScope s__law_box) := ⟨rfl, rfl, rfl, by decide +kernel, rfl, by decide +kernel, by decide +kernel⟩
theorem sc__law_take : FnScope ["box", "many", "digit", "raw"] ["box", "many"] (defScope s__law_take) := ⟨rfl, rfl, rfl, by decide +kernel, rfl, by decide +kernel, by decide +kernel⟩
theorem sc__law_pick : FnScope ["box", "some"] ["box", "some"] (defScope s__law_pick) := ⟨rfl, rfl, rfl, by decide +kernel, rfl, by decide +kernel, by decide +kernel⟩
theorem sc__law_same : FnScope ["told", "due", "is_kind", "one", "other"] ["told", "due"] (defScope s__law_same) := ⟨rfl, rfl, rfl, by decide +kernel, rfl, by decide +kernel, by decide +kernel⟩
theorem sc__law_tables : FnScope ["box", "states", "deeds", "deed", "state"] ["box", "states", "deeds"] (defScope s__law_tables) := ⟨rfl, rfl, rfl, by decide +kernel, rfl, by decide +kernel, by decide +kernel⟩
theorem sc__law_turned : FnScope ["box", "tables", "found", "states", "way", "at", "row", "place", "table", "state"] ["box", "tables"] (defScope s__law_turned) := ⟨rfl, rfl, rfl, by decide +kernel, rfl, by decide +kernel, by decide +kernel⟩
theorem sc__law_row : FnScope ["numbers", "number"] ["numbers"] (defScope s__law_row) := ⟨rfl, rfl, rfl, by decide +kernel, rfl, by decide +kernel, by decide +kernel⟩
theorem sc__law_text : FnScope ["tables", "table"] ["tables"] (defScope s__law_text) := ⟨rfl, rfl, rfl, by decide +kernel, rfl, by decide +kernel, by decide +kernel⟩
theorem sc__law_alike : FnScope ["one", "other", "due"] ["one", "other", "due"] (defScope s__law_alike) := ⟨rfl, rfl, rfl, by decide +kernel, rfl, by decide +kernel, by decide +kernel⟩
theorem sc__law_each_unlike : FnScope ["box", "tables", "numbers", "machine", "states", "link", "at", "near", "place", "row", "twin", "least", "many", "table"] ["box", "tables", "numbers"] (defScope s__law_each_unlike) := ⟨rfl, rfl, rfl, by decide +kernel, rfl, by decide +kernel, by decide +kernel⟩
theorem sc__law_tuples : FnScope ["tables", "table"] ["tables"] (defScope s__law_tuples) := ⟨rfl, rfl, rfl, by decide +kernel, rfl, by decide +kernel, by decide +kernel⟩
theorem sc__law_read_right : FnScope ["tables", "numbers", "machine", "link", "one", "made"] ["tables", "numbers"] (defScope s__law_read_right) := ⟨rfl, rfl, rfl, by decide +kernel, rfl, by decide +kernel, by decide +kernel⟩
theorem sc_law : FnScope ["script", "k", "box", "tables", "other", "numbers", "same", "machine", "twin", "link", "near", "at", "odd"] ["script"] (defScope s_law) := ⟨rfl, rfl, rfl, by decide +kernel, rfl, by decide +kernel, by decide +kernel⟩
structure Tx (K : PySem.W.Frag) (mg : Str → Option Value) : Prop where
  b_len : mg "len" = none
  b_range : mg "range" = none
  b_str : mg "str" = none
  b_abs : mg "abs" = none
  b_int : mg "int" = none
  b_list : mg "list" = none
  b_tuple : mg "tuple" = none
  b_enumerate : mg "enumerate" = none
  b_min : mg "min" = none
  b_all : mg "all" = none
  b_zip : mg "zip" = none
  b_isinstance : mg "isinstance" = none
  b_bool : mg "bool" = none
  k_MOST_DEEDS : ∃ u, mg "MOST_DEEDS" = some u ∧ RelV (.int 4) u
  k_MOST_STATES : ∃ u, mg "MOST_STATES" = some u ∧ RelV (.int 8) u
  k_MOST_LENGTH : ∃ u, mg "MOST_LENGTH" = some u ∧ RelV (.int 12) u
  k_MOST_LOSS : ∃ u, mg "MOST_LOSS" = some u ∧ RelV (.int 8) u
  k_MOST_MODULUS : ∃ u, mg "MOST_MODULUS" = some u ∧ RelV (.int 9) u
  k_STATES : ∃ u, mg "STATES" = some u ∧ RelV (.str "states ") u
  k_LINK : ∃ u, mg "LINK" = some u ∧ RelV (.str "link ") u
  k_NONE : ∃ u, mg "NONE" = some u ∧ RelV (.str "-") u
  g_Machine : mg "Machine" = some (.ref (He.ga K "Machine"))
  i_Machine : C8.InsC K (He.ga K "Machine")
  n_Machine_tables : NoAttr K (He.ga K "Machine") "tables"
  n_Machine_deeds : NoAttr K (He.ga K "Machine") "deeds"
  n_Machine_states : NoAttr K (He.ga K "Machine") "states"
  g_Link : mg "Link" = some (.ref (He.ga K "Link"))
  i_Link : C8.InsC K (He.ga K "Link")
  n_Link_machine : NoAttr K (He.ga K "Link") "machine"
  n_Link_first : NoAttr K (He.ga K "Link") "first"
  n_Link_length : NoAttr K (He.ga K "Link") "length"
  n_Link_loss : NoAttr K (He.ga K "Link") "loss"
  n_Link_modulus : NoAttr K (He.ga K "Link") "modulus"
  b_Machine : Ko K (He.ga K "Machine")
  b_Link : Ko K (He.ga K "Link")
  x_ML : Kx K (He.ga K "Machine") (He.ga K "Link")
  x_LM : Kx K (He.ga K "Link") (He.ga K "Machine")
end P45

namespace P45
open PySem PySem.Spec PyProof.Rows L2 Pg
local macro_rules | `(tactic| walk_at "s") => `(tactic| first
  | ((with_reducible refine r_var (v := ?v) ?h ?q); case h => rfl)
  | (with_reducible refine r_c ?_)
  | (with_reducible refine r_op ?_)
  | (with_reducible refine r_un ?_)
  | (with_reducible refine r_I0 ?_)
  | (with_reducible refine r_U ?_)
  | (with_reducible refine r_addI ?_)
  | (with_reducible refine r_eqI ?_)
  | (with_reducible refine r_neI ?_)
  | (with_reducible refine r_eqT ?_)
  | (with_reducible refine r_neT ?_)
  | (with_reducible refine r_seq ?_)
  | (with_reducible refine r_asg ?_)
  | ((with_reducible refine r_name (σ' := ?s) ?h ?q); case h => (simp only [List.set_cons_zero, List.set_cons_succ, L2.start, List.map_cons, List.map_nil, List.length_cons, List.length_nil, List.cons_append, List.nil_append, List.replicate_succ, List.replicate_zero, Nat.reduceAdd, Nat.reduceSub]; rfl))
  | (with_reducible refine r_cons ?_)
  | (with_reducible refine r_nil ?_)
  | (with_reducible refine r_call ?_)
  | (with_reducible refine r_cb ?_)
  | (with_reducible refine r_ret ?_)
  | (with_reducible refine r_retN ?_)
  | (with_reducible refine r_ifs ?_)
  | (with_reducible refine r_if ?_)
  | (with_reducible refine r_tt ?_)
  | (with_reducible refine r_tb ?_)
  | (with_reducible refine r_tand ?_)
  | (with_reducible refine r_tor ?_)
  | (with_reducible refine r_tnot ?_)
  | (with_reducible refine r_and ?_)
  | (with_reducible refine r_or ?_)
  | (with_reducible refine r_not ?_)
  | (with_reducible refine r_chain ?_)
  | (with_reducible refine r_bl ?_)
  | (with_reducible refine r_int ?_)
  | (with_reducible refine r_iteT ?_)
  | (with_reducible refine r_iteF ?_)
  | (with_reducible refine r_inT ?_)
  | (with_reducible refine r_inF ?_)
  | (with_reducible refine r_intc ?_)
  | (with_reducible refine r_abs ?_)
  | (with_reducible refine r_lst ?_)
  | (with_reducible refine r_tup ?_)
  | (with_reducible refine r_sl ?_)
  | (with_reducible refine r_nopart ?_)
  | (with_reducible refine r_part ?_)
  | (with_reducible refine r_bm ?_)
  | (with_reducible refine r_bm0 ?_)
  | (with_reducible refine r_m1 ?_)
  | (with_reducible refine r_gsub ?_)
  | (with_reducible refine r_drop ?_)
  | (with_reducible refine r_next ?_)
  | (with_reducible refine r_par ?_)
  | (with_reducible refine r_par3 ?_)
  | (with_reducible refine r_par2 ?_)
  | (with_reducible refine r_fld ?_)
  | (with_reducible refine r_sfld ?_)
  | (with_reducible refine r_make ?_)
  | (with_reducible refine r_strI ?_)
  | (with_reducible refine r_min ?_)
  | (with_reducible refine r_max ?_))
local macro_rules | `(tactic| walk_at "n") => `(tactic| first
  | ((with_reducible refine r_var (v := ?v) ?h ?q); case h => rfl)
  | (with_reducible refine r_c ?_)
  | (with_reducible refine r_op ?_)
  | (with_reducible refine r_un ?_)
  | (with_reducible refine r_I0 ?_)
  | (with_reducible refine r_U ?_)
  | (with_reducible refine r_addI ?_)
  | (with_reducible refine r_eqI ?_)
  | (with_reducible refine r_neI ?_)
  | (with_reducible refine r_eqT ?_)
  | (with_reducible refine r_neT ?_)
  | (with_reducible refine r_asg ?_)
  | ((with_reducible refine r_name (σ' := ?s) ?h ?q); case h => (simp only [List.set_cons_zero, List.set_cons_succ, L2.start, List.map_cons, List.map_nil, List.length_cons, List.length_nil, List.cons_append, List.nil_append, List.replicate_succ, List.replicate_zero, Nat.reduceAdd, Nat.reduceSub]; rfl))
  | (with_reducible refine r_cons ?_)
  | (with_reducible refine r_nil ?_)
  | (with_reducible refine r_call ?_)
  | (with_reducible refine r_cb ?_)
  | (with_reducible refine r_ret ?_)
  | (with_reducible refine r_retN ?_)
  | (with_reducible refine r_ifs ?_)
  | (with_reducible refine r_if ?_)
  | (with_reducible refine r_tt ?_)
  | (with_reducible refine r_tb ?_)
  | (with_reducible refine r_tand ?_)
  | (with_reducible refine r_tor ?_)
  | (with_reducible refine r_tnot ?_)
  | (with_reducible refine r_and ?_)
  | (with_reducible refine r_or ?_)
  | (with_reducible refine r_not ?_)
  | (with_reducible refine r_chain ?_)
  | (with_reducible refine r_bl ?_)
  | (with_reducible refine r_int ?_)
  | (with_reducible refine r_iteT ?_)
  | (with_reducible refine r_iteF ?_)
  | (with_reducible refine r_inT ?_)
  | (with_reducible refine r_inF ?_)
  | (with_reducible refine r_intc ?_)
  | (with_reducible refine r_abs ?_)
  | (with_reducible refine r_lst ?_)
  | (with_reducible refine r_tup ?_)
  | (with_reducible refine r_sl ?_)
  | (with_reducible refine r_nopart ?_)
  | (with_reducible refine r_part ?_)
  | (with_reducible refine r_bm ?_)
  | (with_reducible refine r_bm0 ?_)
  | (with_reducible refine r_m1 ?_)
  | (with_reducible refine r_gsub ?_)
  | (with_reducible refine r_drop ?_)
  | (with_reducible refine r_next ?_)
  | (with_reducible refine r_par ?_)
  | (with_reducible refine r_par3 ?_)
  | (with_reducible refine r_par2 ?_)
  | (with_reducible refine r_fld ?_)
  | (with_reducible refine r_sfld ?_)
  | (with_reducible refine r_make ?_)
  | (with_reducible refine r_strI ?_)
  | (with_reducible refine r_min ?_)
  | (with_reducible refine r_max ?_))
local macro_rules | `(tactic| walk_at "len") => `(tactic| (intro _ _ _ _ h; first | (obtain ⟨e, _⟩ := h; subst e; rfl) | (obtain ⟨_, e, _⟩ := h; subst e; rfl) | (obtain ⟨_, _, e, _⟩ := h; subst e; rfl) | (obtain ⟨_, _, _, e, _⟩ := h; subst e; rfl) | (obtain ⟨_, _, _, _, e, _⟩ := h; subst e; rfl) | (obtain ⟨_, _, _, _, _, e, _⟩ := h; subst e; rfl) | (obtain ⟨_, _, _, _, _, _, e, _⟩ := h; subst e; rfl) | (obtain ⟨_, _, _, _, _, _, _, e, _⟩ := h; subst e; rfl) | (obtain ⟨_, _, _, _, _, _, _, _, e, _⟩ := h; subst e; rfl) | (obtain ⟨_, _, _, _, _, _, _, _, _, e, _⟩ := h; subst e; rfl) | (obtain ⟨_, _, _, _, _, _, _, _, _, _, e, _⟩ := h; subst e; rfl) | (obtain ⟨_, _, _, _, _, _, _, _, _, _, _, e, _⟩ := h; subst e; rfl)))

section
variable {P : Program} {w : World} {K : PySem.W.Frag} {mg : Str → Option Value} {base : Heap}
/-! ### whole numbers -/
def sp_is_integer (K : PySem.W.Frag) : Sp := fun vs H Q _ => ∃ i : Int, vs = [.int i] ∧ Q (.bl true) H
def sp_is_number (K : PySem.W.Frag) : Sp := fun vs H Q _ => ∃ i : Int, vs = [.int i] ∧ Q (.bl (decide (0 ≤ i))) H
def sp_is_below (K : PySem.W.Frag) : Sp := fun vs H Q _ => ∃ i m : Int, vs = [.int i, .int m] ∧ Q (.bl (decide (0 ≤ i ∧ i < m))) H
def sp_is_within (K : PySem.W.Frag) : Sp := fun vs H Q _ => ∃ i l m : Int, vs = [.int i, .int l, .int m] ∧ Q (.bl (decide (l ≤ i ∧ i ≤ m))) H
theorem ok_is_integer {f : Addr} {fd : FuncData} (F : At K mg "is_integer" s_is_integer [] [] f fd) (T : Tx K mg)  : Cl P w K mg base 1 "is_integer" (sp_is_integer K) [] := by
  refine cl_of F sc_is_integer (fun _ _ _ _ _ _ us hl => match us, hl with | [_], _ => rfl) (by walk_at "len") (fun cdv A outer s H vs Q E hr h => ?_)
  obtain ⟨i, rfl, k⟩ := h
  refine ⟨_, (pss_one (ps_ret (pe_and (pe_callB (kIsi K) rfl T.b_isinstance (by decide +kernel) (pa_cons (pv 0) (pa_cons (pe_bltn (v := .ty "int") rfl T.b_int (by decide +kernel) rfl) pa_nil))) (pe_one (pe_not (pe_callB (kIsi K) rfl T.b_isinstance (by decide +kernel) (pa_cons (pv 0) (pa_cons (pe_bltn (v := .ty "bool") rfl T.b_bool (by decide +kernel) rfl) pa_nil)))))))), ?_⟩
  repeat walk_at "s"
  refine r_isi (.base (.int i)) (by decide +kernel : kitB "int" "int" = some true) ?_
  repeat walk_at "s"
  refine r_isi (.base (.int i)) (by decide +kernel : kitB "int" "bool" = some false) ?_
  repeat walk_at "s"
  exact k
theorem ok_is_number {f : Addr} {fd : FuncData} (F : At K mg "is_number" s_is_number [] [] f fd) (T : Tx K mg) (c_is_integer : Cl P w K mg base 1 "is_integer" (sp_is_integer K) []) : Cl P w K mg base 2 "is_number" (sp_is_number K) [] := by
  refine cl_of F sc_is_number (fun _ _ _ _ _ _ us hl => match us, hl with | [_], _ => rfl) (by walk_at "len") (fun cdv A outer s H vs Q E hr h => ?_)
  obtain ⟨i, rfl, k⟩ := h
  refine ⟨_, (pss_one (ps_ret (pe_and (pcl c_is_integer hr (by decide) rfl (pa_cons (pv 0) pa_nil)) (pe_one (pe_cmpR op_ge (pv 0) pe_int (nomark _)))))), ?_⟩
  repeat walk_at "s"
  refine ⟨i, rfl, ?_⟩
  repeat walk_at "s"
  exact k
theorem ok_is_below {f : Addr} {fd : FuncData} (F : At K mg "is_below" s_is_below [] [] f fd) (T : Tx K mg) (c_is_number : Cl P w K mg base 2 "is_number" (sp_is_number K) []) : Cl P w K mg base 3 "is_below" (sp_is_below K) [] := by
  refine cl_of F sc_is_below (fun _ _ _ _ _ _ us hl => match us, hl with | [_, _], _ => rfl) (by walk_at "len") (fun cdv A outer s H vs Q E hr h => ?_)
  obtain ⟨i, m, rfl, k⟩ := h
  refine ⟨_, (pss_one (ps_ret (pe_and (pcl c_is_number hr (by decide) rfl (pa_cons (pv 0) pa_nil)) (pe_one (pe_cmpR op_lt (pv 0) (pv 1) (nomark _)))))), ?_⟩
  repeat walk_at "s"
  refine ⟨i, rfl, ?_⟩
  repeat walk_at "s"
  refine r_dec (fun h => ?_) (fun h => ?_)
  · repeat walk_at "s"
    have e : decide (0 ≤ i ∧ i < m) = decide (i < m) := by simp [h]
    rw [e] at k
    exact k
  · have e : decide (0 ≤ i ∧ i < m) = false := by simp [h]
    rw [e] at k
    exact k
theorem ok_is_within {f : Addr} {fd : FuncData} (F : At K mg "is_within" s_is_within [] [] f fd) (T : Tx K mg) (c_is_integer : Cl P w K mg base 1 "is_integer" (sp_is_integer K) []) : Cl P w K mg base 2 "is_within" (sp_is_within K) [] := by
  refine cl_of F sc_is_within (fun _ _ _ _ _ _ us hl => match us, hl with | [_, _, _], _ => rfl) (by walk_at "len") (fun cdv A outer s H vs Q E hr h => ?_)
  obtain ⟨i, l, m, rfl, k⟩ := h
  refine ⟨_, (pss_one (ps_ret (pe_and (pcl c_is_integer hr (by decide) rfl (pa_cons (pv 0) pa_nil)) (pe_one (pe_chain op_le op_le (pv 1) (pv 0) (pv 2)))))), ?_⟩
  repeat walk_at "s"
  refine ⟨i, rfl, ?_⟩
  repeat walk_at "s"
  refine r_dec (fun h => ?_) (fun h => ?_)
  · repeat walk_at "s"
    have e : decide (l ≤ i ∧ i ≤ m) = decide (i ≤ m) := by simp [h]
    rw [e] at k
    exact k
  · have e : decide (l ≤ i ∧ i ≤ m) = false := by simp [h]
    rw [e] at k
    exact k
/-! ### draws -/
def sp__law_take (K : PySem.W.Frag) : Sp := fun vs H Q _ => ∃ (b : Addr) (m : Int), vs = [.ref b, .int m] ∧ Bx H b ∧ 0 < m ∧ m < 1000000 ∧
  ∀ (r : Int) (H' : Hp), Sb b H H' → 0 ≤ r → r < m → Q (.int r) H'
theorem ok__law_take {f : Addr} {fd : FuncData} (F : At K mg "_law_take" s__law_take [] [] f fd) (T : Tx K mg)  : Cl P w K mg base 1 "_law_take" (sp__law_take K) [] := by
  refine cl_of F sc__law_take (fun _ _ _ _ _ _ us hl => match us, hl with | [_, _], _ => rfl) (by walk_at "len") (fun cdv A outer s H vs Q E hr h => ?_)
  obtain ⟨b, m, rfl, ⟨g, s0, hb⟩, h0, h1, k⟩ := h
  refine ⟨_, (pss_cons (ps_if (pt_cmpR op_gt (pe_ix (kIx K) (pv 0) pe_int (fun _ _ => rfl)) pe_int (nomark _)) (pss_cons (ps_set (i := 2) sc__law_take.nd rfl (Or.inl rfl) (pe_op op_mod (pe_callTy call_intU rfl T.b_int (by decide +kernel) (pa_cons (pe_ix (kIx K) (pv 0) pe_int (fun _ _ => rfl)) pa_nil)) (pv 1)))
      (pss_cons (ps_asg (pe_op op_fdiv (pe_ix (kIx K) (pv 0) pe_int (fun _ _ => rfl)) (pv 1)) (pg_sub (pv 0) pe_int set_list))
      (pss_one (ps_ret (pv 2))))) pss_nil)
      (pss_cons (ps_set (i := 3) sc__law_take.nd rfl (Or.inl rfl) (pe_op op_mod (pe_callTy call_intU rfl T.b_int (by decide +kernel) (pa_cons (pe_op (kAdd K) (pe_op op_mul (pe_ix (kIx K) (pv 0) pe_int (fun _ _ => rfl)) pe_int) pe_int) pa_nil)) pe_int))
      (pss_cons (ps_asg (pe_op (kAdd K) (pe_op op_mod (pe_callTy call_intU rfl T.b_int (by decide +kernel) (pa_cons (pe_op (kAdd K) (pe_op op_mul (pv 3) pe_int) pe_int) pa_nil)) pe_int) pe_int) (pg_sub (pv 0) pe_int set_list))
      (pss_one (ps_ret (pe_op op_mod (pe_callTy call_intU rfl T.b_int (by decide +kernel) (pa_cons (pe_op op_fdiv (pe_op (kAdd K) (pe_op op_mul (pv 3) pe_int) (pe_ix (kIx K) (pv 0) pe_int (fun _ _ => rfl))) pe_int) pa_nil)) (pv 1))))))), ?_⟩
  have i0 : atI [V.int g, V.int s0] 0 = some (.int g) := rfl
  have i1 : atI [V.int g, V.int s0] 1 = some (.int s0) := rfl
  repeat walk_at "s"
  refine r_ixL (SqL.of hb) i0 ?_
  repeat walk_at "s"
  refine r_dec (fun hg => ?_) (fun hg => ?_)
  · repeat walk_at "s"
    refine r_ixL (SqL.of hb) i0 ?_
    repeat walk_at "s"
    refine r_I h0 ?_
    repeat walk_at "s"
    refine r_ixL (SqL.of hb) i0 ?_
    repeat walk_at "s"
    refine r_I ⟨h0, by omega⟩ ?_
    repeat walk_at "s"
    refine r_setL hb (j := 0) rfl ?_
    repeat walk_at "s"
    exact k _ _ Sb.box (Int.emod_nonneg _ (by omega)) (Int.emod_lt_of_pos _ h0)
  · repeat walk_at "s"
    refine r_ixL (SqL.of hb) i1 ?_
    repeat walk_at "s"
    refine r_I (.inr ⟨by decide, by decide⟩) ?_
    repeat walk_at "s"
    refine r_I (by decide) ?_
    repeat walk_at "s"
    refine r_I (.inr ⟨by decide, by decide⟩) ?_
    repeat walk_at "s"
    refine r_I (by decide) ?_
    repeat walk_at "s"
    refine r_setL hb (j := 1) rfl ?_
    repeat walk_at "s"
    refine r_I (.inr ⟨by decide, by decide⟩) ?_
    repeat walk_at "s"
    refine r_ixL (SqL.of upd_same) (v := .int _) rfl ?_
    repeat walk_at "s"
    refine r_I ⟨by decide, by decide⟩ ?_
    repeat walk_at "s"
    refine r_I h0 ?_
    repeat walk_at "s"
    exact k _ _ Sb.box (Int.emod_nonneg _ (by omega)) (Int.emod_lt_of_pos _ h0)
end
end P45

namespace P45
open PySem PySem.Spec PyProof.Rows L2 Pg
local macro_rules | `(tactic| walk_at "s") => `(tactic| first
  | ((with_reducible refine r_var (v := ?v) ?h ?q); case h => rfl)
  | (with_reducible refine r_c ?_)
  | (with_reducible refine r_op ?_)
  | (with_reducible refine r_un ?_)
  | (with_reducible refine r_I0 ?_)
  | (with_reducible refine r_U ?_)
  | (with_reducible refine r_addI ?_)
  | (with_reducible refine r_eqI ?_)
  | (with_reducible refine r_neI ?_)
  | (with_reducible refine r_eqT ?_)
  | (with_reducible refine r_neT ?_)
  | (with_reducible refine r_seq ?_)
  | (with_reducible refine r_asg ?_)
  | ((with_reducible refine r_name (σ' := ?s) ?h ?q); case h => (simp only [List.set_cons_zero, List.set_cons_succ, L2.start, List.map_cons, List.map_nil, List.length_cons, List.length_nil, List.cons_append, List.nil_append, List.replicate_succ, List.replicate_zero, Nat.reduceAdd, Nat.reduceSub]; rfl))
  | (with_reducible refine r_cons ?_)
  | (with_reducible refine r_nil ?_)
  | (with_reducible refine r_call ?_)
  | (with_reducible refine r_cb ?_)
  | (with_reducible refine r_ret ?_)
  | (with_reducible refine r_retN ?_)
  | (with_reducible refine r_ifs ?_)
  | (with_reducible refine r_if ?_)
  | (with_reducible refine r_tt ?_)
  | (with_reducible refine r_tb ?_)
  | (with_reducible refine r_tand ?_)
  | (with_reducible refine r_tor ?_)
  | (with_reducible refine r_tnot ?_)
  | (with_reducible refine r_and ?_)
  | (with_reducible refine r_or ?_)
  | (with_reducible refine r_not ?_)
  | (with_reducible refine r_chain ?_)
  | (with_reducible refine r_bl ?_)
  | (with_reducible refine r_int ?_)
  | (with_reducible refine r_iteT ?_)
  | (with_reducible refine r_iteF ?_)
  | (with_reducible refine r_inT ?_)
  | (with_reducible refine r_inF ?_)
  | (with_reducible refine r_intc ?_)
  | (with_reducible refine r_abs ?_)
  | (with_reducible refine r_lst ?_)
  | (with_reducible refine r_tup ?_)
  | (with_reducible refine r_sl ?_)
  | (with_reducible refine r_nopart ?_)
  | (with_reducible refine r_part ?_)
  | (with_reducible refine r_bm ?_)
  | (with_reducible refine r_bm0 ?_)
  | (with_reducible refine r_m1 ?_)
  | (with_reducible refine r_gsub ?_)
  | (with_reducible refine r_drop ?_)
  | (with_reducible refine r_next ?_)
  | (with_reducible refine r_par ?_)
  | (with_reducible refine r_par3 ?_)
  | (with_reducible refine r_par2 ?_)
  | (with_reducible refine r_fld ?_)
  | (with_reducible refine r_sfld ?_)
  | (with_reducible refine r_make ?_)
  | (with_reducible refine r_strI ?_)
  | (with_reducible refine r_min ?_)
  | (with_reducible refine r_max ?_))
local macro_rules | `(tactic| walk_at "n") => `(tactic| first
  | ((with_reducible refine r_var (v := ?v) ?h ?q); case h => rfl)
  | (with_reducible refine r_c ?_)
  | (with_reducible refine r_op ?_)
  | (with_reducible refine r_un ?_)
  | (with_reducible refine r_I0 ?_)
  | (with_reducible refine r_U ?_)
  | (with_reducible refine r_addI ?_)
  | (with_reducible refine r_eqI ?_)
  | (with_reducible refine r_neI ?_)
  | (with_reducible refine r_eqT ?_)
  | (with_reducible refine r_neT ?_)
  | (with_reducible refine r_asg ?_)
  | ((with_reducible refine r_name (σ' := ?s) ?h ?q); case h => (simp only [List.set_cons_zero, List.set_cons_succ, L2.start, List.map_cons, List.map_nil, List.length_cons, List.length_nil, List.cons_append, List.nil_append, List.replicate_succ, List.replicate_zero, Nat.reduceAdd, Nat.reduceSub]; rfl))
  | (with_reducible refine r_cons ?_)
  | (with_reducible refine r_nil ?_)
  | (with_reducible refine r_call ?_)
  | (with_reducible refine r_cb ?_)
  | (with_reducible refine r_ret ?_)
  | (with_reducible refine r_retN ?_)
  | (with_reducible refine r_ifs ?_)
  | (with_reducible refine r_if ?_)
  | (with_reducible refine r_tt ?_)
  | (with_reducible refine r_tb ?_)
  | (with_reducible refine r_tand ?_)
  | (with_reducible refine r_tor ?_)
  | (with_reducible refine r_tnot ?_)
  | (with_reducible refine r_and ?_)
  | (with_reducible refine r_or ?_)
  | (with_reducible refine r_not ?_)
  | (with_reducible refine r_chain ?_)
  | (with_reducible refine r_bl ?_)
  | (with_reducible refine r_int ?_)
  | (with_reducible refine r_iteT ?_)
  | (with_reducible refine r_iteF ?_)
  | (with_reducible refine r_inT ?_)
  | (with_reducible refine r_inF ?_)
  | (with_reducible refine r_intc ?_)
  | (with_reducible refine r_abs ?_)
  | (with_reducible refine r_lst ?_)
  | (with_reducible refine r_tup ?_)
  | (with_reducible refine r_sl ?_)
  | (with_reducible refine r_nopart ?_)
  | (with_reducible refine r_part ?_)
  | (with_reducible refine r_bm ?_)
  | (with_reducible refine r_bm0 ?_)
  | (with_reducible refine r_m1 ?_)
  | (with_reducible refine r_gsub ?_)
  | (with_reducible refine r_drop ?_)
  | (with_reducible refine r_next ?_)
  | (with_reducible refine r_par ?_)
  | (with_reducible refine r_par3 ?_)
  | (with_reducible refine r_par2 ?_)
  | (with_reducible refine r_fld ?_)
  | (with_reducible refine r_sfld ?_)
  | (with_reducible refine r_make ?_)
  | (with_reducible refine r_strI ?_)
  | (with_reducible refine r_min ?_)
  | (with_reducible refine r_max ?_))
local macro_rules | `(tactic| walk_at "len") => `(tactic| (intro _ _ _ _ h; first | (obtain ⟨e, _⟩ := h; subst e; rfl) | (obtain ⟨_, e, _⟩ := h; subst e; rfl) | (obtain ⟨_, _, e, _⟩ := h; subst e; rfl) | (obtain ⟨_, _, _, e, _⟩ := h; subst e; rfl) | (obtain ⟨_, _, _, _, e, _⟩ := h; subst e; rfl) | (obtain ⟨_, _, _, _, _, e, _⟩ := h; subst e; rfl) | (obtain ⟨_, _, _, _, _, _, e, _⟩ := h; subst e; rfl) | (obtain ⟨_, _, _, _, _, _, _, e, _⟩ := h; subst e; rfl) | (obtain ⟨_, _, _, _, _, _, _, _, e, _⟩ := h; subst e; rfl) | (obtain ⟨_, _, _, _, _, _, _, _, _, e, _⟩ := h; subst e; rfl) | (obtain ⟨_, _, _, _, _, _, _, _, _, _, e, _⟩ := h; subst e; rfl) | (obtain ⟨_, _, _, _, _, _, _, _, _, _, _, e, _⟩ := h; subst e; rfl)))

section
variable {P : Program} {w : World} {K : PySem.W.Frag} {mg : Str → Option Value} {base : Heap}
/-! ### tables -/
/-- rows, lists or tuples of ints -/
def Rows (K : PySem.W.Frag) (H : Hp) (rs : List V) (tabs : List (List Int)) : Prop := Paired (fun (r : V) (t : List Int) => ∃ b, r = .ref b ∧ Sq K H b (t.map V.int)) rs tabs
def TabV (K : PySem.W.Frag) (H : Hp) (v : V) (tabs : List (List Int)) : Prop := ∃ a rs, v = .ref a ∧ Sq K H a rs ∧ Rows K H rs tabs
def RowsT (K : PySem.W.Frag) (H : Hp) (rs : List V) (tabs : List (List Int)) : Prop := Paired (fun (r : V) (t : List Int) => ∃ b, r = .ref b ∧ SqT K H b (t.map V.int)) rs tabs
def TupT (K : PySem.W.Frag) (H : Hp) (v : V) (tabs : List (List Int)) : Prop := ∃ a rs, v = .ref a ∧ SqT K H a rs ∧ RowsT K H rs tabs
structure Good (tabs : List (List Int)) (n : Nat) : Prop where
  ne : 1 ≤ tabs.length
  few : tabs.length ≤ 4
  n1 : 1 ≤ n
  n8 : n ≤ 8
  len : ∀ t ∈ tabs, t.length = n
  bnd : ∀ t ∈ tabs, ∀ x ∈ t, 0 ≤ x ∧ x < (n : Int)
theorem Rows.same {H H' : Hp} {rs : List V} {tabs : List (List Int)} (s : Same H H') (h : Rows K H rs tabs) : Rows K H' rs tabs := Paired.mapP h fun _ _ ⟨b, e, q⟩ => ⟨b, e, q.same s⟩
theorem TabV.same {H H' : Hp} {v : V} {tabs : List (List Int)} (s : Same H H') (h : TabV K H v tabs) : TabV K H' v tabs := by
  obtain ⟨a, rs, e, q, r⟩ := h
  exact ⟨a, rs, e, q.same s, r.same s⟩
theorem RowsT.same {H H' : Hp} {rs : List V} {tabs : List (List Int)} (s : Same H H') (h : RowsT K H rs tabs) : RowsT K H' rs tabs := Paired.mapP h fun _ _ ⟨b, e, q⟩ => ⟨b, e, SqT.ext q s⟩
theorem TupT.same {H H' : Hp} {v : V} {tabs : List (List Int)} (s : Same H H') (h : TupT K H v tabs) : TupT K H' v tabs := by
  obtain ⟨a, rs, e, q, r⟩ := h
  exact ⟨a, rs, e, SqT.ext q s, r.same s⟩
theorem TupT.tab {H : Hp} {v : V} {tabs : List (List Int)} (h : TupT K H v tabs) : TabV K H v tabs := by
  obtain ⟨a, rs, e, q, r⟩ := h
  exact ⟨a, rs, e, .inr q, Paired.mapP r fun _ _ ⟨b, e, q⟩ => ⟨b, e, .inr q⟩⟩
theorem Rows.get {H : Hp} {rs : List V} {tabs : List (List Int)} (h : Rows K H rs tabs) {i : Nat} {r : V} (e : rs[i]? = some r) : ∃ b t, r = .ref b ∧ tabs[i]? = some t ∧ Sq K H b (t.map V.int) := by
  induction h generalizing i with
  | nil => simp at e
  | cons q _ ih =>
    cases i with
    | zero =>
      simp at e; subst e
      obtain ⟨b, e, q⟩ := q
      exact ⟨b, _, e, by simp, q⟩
    | succ i =>
      simp at e
      obtain ⟨b, t, e1, e2, e3⟩ := ih e
      exact ⟨b, t, e1, by simpa using e2, e3⟩
def sp_is_sequence (K : PySem.W.Frag) : Sp := fun vs H Q _ => ∃ (a : Addr) (xs : List V), vs = [.ref a] ∧ Sq K H a xs ∧ ∀ H', Same H H' → Q (.bl true) H'
def sp_is_table (K : PySem.W.Frag) : Sp := fun vs H Q _ => ∃ (a : Addr) (ns : List Int) (n : Nat), vs = [.ref a, .int n] ∧ Sq K H a (ns.map V.int) ∧ ns.length = n ∧ n ≤ 8 ∧ (∀ x ∈ ns, 0 ≤ x ∧ x < (n : Int)) ∧ ∀ H', Same H H' → Q (.bl true) H'
theorem ok_is_sequence {f : Addr} {fd : FuncData} (F : At K mg "is_sequence" s_is_sequence [] [] f fd) (T : Tx K mg)  : Cl P w K mg base 1 "is_sequence" (sp_is_sequence K) [] := by
  refine cl_of F sc_is_sequence (fun _ _ _ _ _ _ us hl => match us, hl with | [_], _ => rfl) (by walk_at "len") (fun cdv A outer s H vs Q E hr h => ?_)
  obtain ⟨a, xs, rfl, hs, k⟩ := h
  refine ⟨_, (pss_one (ps_ret (pe_callB (kIsi K) rfl T.b_isinstance (by decide +kernel) (pa_cons (pv 0) (pa_cons (pe_tup (pa_cons (pe_bltn (v := .ty "list") rfl T.b_list (by decide +kernel) rfl) (pa_cons (pe_bltn (v := .ty "tuple") rfl T.b_tuple (by decide +kernel) rfl) pa_nil))) pa_nil))))), ?_⟩
  repeat walk_at "s"
  refine ⟨szl (by decide), fun p hp => ?_⟩
  repeat walk_at "s"
  exact r_isSeq upd_same (hs.same (same_upd hp)) (k _ (same_upd hp))
theorem ok_is_table {f : Addr} {fd : FuncData} (F : At K mg "is_table" s_is_table [] [] f fd) (T : Tx K mg) (c_is_sequence : Cl P w K mg base 1 "is_sequence" (sp_is_sequence K) []) (c_is_below : Cl P w K mg base 3 "is_below" (sp_is_below K) []) : Cl P w K mg base 4 "is_table" (sp_is_table K) [] := by
  refine cl_of F sc_is_table (fun _ _ _ _ _ _ us hl => match us, hl with | [_, _], _ => rfl) (by walk_at "len") (fun cdv A outer s H vs Q E hr h => ?_)
  obtain ⟨a, ns, n, rfl, hs, hl, h8, hb, k⟩ := h
  refine ⟨_, (pss_one (ps_ret (pe_and (pcl c_is_sequence hr (by decide) rfl (pa_cons (pv 0) pa_nil)) (pe_and (pe_cmpR (kEq K hr) (pe_callB (kLen K) rfl T.b_len (by decide +kernel) (pa_cons (pv 0) pa_nil)) (pv 1) (nomark _)) (pe_one (pe_callB (kAll K rfl) rfl T.b_all (by decide +kernel) (pa_cons (pe_lc (own := [("state", 2)]) (g := gName 2) (tt := tYes) rfl sc_is_table.nd  (kSeq K (pv 0)) (blkOk_by (by kernel_rfl)) (fun _ _ _ _ _ => (pg_name (i := 2) sc_is_table.nd rfl (Or.inl rfl))) (fun _ _ _ _ _ => pts_nil) (fun _ _ _ _ _ => (pcl c_is_below hr (by decide) rfl (pa_cons (pv 2) (pa_cons (pv 1) pa_nil))))) pa_nil))))))), ?_⟩
  repeat walk_at "s"
  refine ⟨a, _, rfl, hs, fun H1 s1 => ?_⟩
  repeat walk_at "s"
  refine r_lenQ (hs.same s1) ?_
  repeat walk_at "s"
  rw [decide_eq_true (by rw [List.length_map, hl])]
  repeat walk_at "s"
  refine r_lc ?_
  refine r_iseqV (hs.same s1) rfl fun J G hG w => fun D hD => ?_
  refine lc_map w hD (by rw [List.length_map]; omega) hG (fun _ y _ => y = .bl true) (fun _ _ _ _ _ e => e) (fun _ _ _ _ _ _ e => e) ?_ walk_same ?_
  · rintro i x H' H'' hi s12 _ _ ⟨rfl, hx⟩ N1 kN
    rw [List.getElem?_map] at hx
    obtain ⟨z, hz, rfl⟩ := Option.map_eq_some_iff.mp hx
    repeat walk_at "s"
    refine ⟨z, n, rfl, ?_⟩
    have := hb z (List.mem_of_getElem? hz)
    exact kN _ _ (Same.refl _) (by rw [decide_eq_true this])
  · intro H' ys s12 hD' hy ha
    repeat walk_at "s"
    have ey : ys = (List.replicate ys.length true).map V.bl := by
      refine List.ext_getElem? fun j => ?_
      cases e : ys[j]? with
      | none => rw [List.getElem?_eq_none (by simpa using List.getElem?_eq_none_iff.mp e)]
      | some y =>
        have hj : j < ys.length := (List.getElem?_eq_some_iff.mp e).1
        rw [ha j y e]; simp [hj]
    refine r_all (SqL.of (by rw [hD', ← ey])) ?_
    rw [show (List.replicate ys.length true).all id = true by simp]
    exact k _ (s1.trans s12)
end
end P45

namespace P45
open PySem PySem.Spec PyProof.Rows L2 Pg
local macro_rules | `(tactic| walk_at "s") => `(tactic| first
  | ((with_reducible refine r_var (v := ?v) ?h ?q); case h => rfl)
  | (with_reducible refine r_c ?_)
  | (with_reducible refine r_op ?_)
  | (with_reducible refine r_un ?_)
  | (with_reducible refine r_I0 ?_)
  | (with_reducible refine r_U ?_)
  | (with_reducible refine r_addI ?_)
  | (with_reducible refine r_eqI ?_)
  | (with_reducible refine r_neI ?_)
  | (with_reducible refine r_eqT ?_)
  | (with_reducible refine r_neT ?_)
  | (with_reducible refine r_seq ?_)
  | (with_reducible refine r_asg ?_)
  | ((with_reducible refine r_name (σ' := ?s) ?h ?q); case h => (simp only [List.set_cons_zero, List.set_cons_succ, L2.start, List.map_cons, List.map_nil, List.length_cons, List.length_nil, List.cons_append, List.nil_append, List.replicate_succ, List.replicate_zero, Nat.reduceAdd, Nat.reduceSub]; rfl))
  | (with_reducible refine r_cons ?_)
  | (with_reducible refine r_nil ?_)
  | (with_reducible refine r_call ?_)
  | (with_reducible refine r_cb ?_)
  | (with_reducible refine r_ret ?_)
  | (with_reducible refine r_retN ?_)
  | (with_reducible refine r_ifs ?_)
  | (with_reducible refine r_if ?_)
  | (with_reducible refine r_tt ?_)
  | (with_reducible refine r_tb ?_)
  | (with_reducible refine r_tand ?_)
  | (with_reducible refine r_tor ?_)
  | (with_reducible refine r_tnot ?_)
  | (with_reducible refine r_and ?_)
  | (with_reducible refine r_or ?_)
  | (with_reducible refine r_not ?_)
  | (with_reducible refine r_chain ?_)
  | (with_reducible refine r_bl ?_)
  | (with_reducible refine r_int ?_)
  | (with_reducible refine r_iteT ?_)
  | (with_reducible refine r_iteF ?_)
  | (with_reducible refine r_inT ?_)
  | (with_reducible refine r_inF ?_)
  | (with_reducible refine r_intc ?_)
  | (with_reducible refine r_abs ?_)
  | (with_reducible refine r_lst ?_)
  | (with_reducible refine r_tup ?_)
  | (with_reducible refine r_sl ?_)
  | (with_reducible refine r_nopart ?_)
  | (with_reducible refine r_part ?_)
  | (with_reducible refine r_bm ?_)
  | (with_reducible refine r_bm0 ?_)
  | (with_reducible refine r_m1 ?_)
  | (with_reducible refine r_gsub ?_)
  | (with_reducible refine r_drop ?_)
  | (with_reducible refine r_next ?_)
  | (with_reducible refine r_par ?_)
  | (with_reducible refine r_par3 ?_)
  | (with_reducible refine r_par2 ?_)
  | (with_reducible refine r_fld ?_)
  | (with_reducible refine r_sfld ?_)
  | (with_reducible refine r_make ?_)
  | (with_reducible refine r_strI ?_)
  | (with_reducible refine r_min ?_)
  | (with_reducible refine r_max ?_))
local macro_rules | `(tactic| walk_at "n") => `(tactic| first
  | ((with_reducible refine r_var (v := ?v) ?h ?q); case h => rfl)
  | (with_reducible refine r_c ?_)
  | (with_reducible refine r_op ?_)
  | (with_reducible refine r_un ?_)
  | (with_reducible refine r_I0 ?_)
  | (with_reducible refine r_U ?_)
  | (with_reducible refine r_addI ?_)
  | (with_reducible refine r_eqI ?_)
  | (with_reducible refine r_neI ?_)
  | (with_reducible refine r_eqT ?_)
  | (with_reducible refine r_neT ?_)
  | (with_reducible refine r_asg ?_)
  | ((with_reducible refine r_name (σ' := ?s) ?h ?q); case h => (simp only [List.set_cons_zero, List.set_cons_succ, L2.start, List.map_cons, List.map_nil, List.length_cons, List.length_nil, List.cons_append, List.nil_append, List.replicate_succ, List.replicate_zero, Nat.reduceAdd, Nat.reduceSub]; rfl))
  | (with_reducible refine r_cons ?_)
  | (with_reducible refine r_nil ?_)
  | (with_reducible refine r_call ?_)
  | (with_reducible refine r_cb ?_)
  | (with_reducible refine r_ret ?_)
  | (with_reducible refine r_retN ?_)
  | (with_reducible refine r_ifs ?_)
  | (with_reducible refine r_if ?_)
  | (with_reducible refine r_tt ?_)
  | (with_reducible refine r_tb ?_)
  | (with_reducible refine r_tand ?_)
  | (with_reducible refine r_tor ?_)
  | (with_reducible refine r_tnot ?_)
  | (with_reducible refine r_and ?_)
  | (with_reducible refine r_or ?_)
  | (with_reducible refine r_not ?_)
  | (with_reducible refine r_chain ?_)
  | (with_reducible refine r_bl ?_)
  | (with_reducible refine r_int ?_)
  | (with_reducible refine r_iteT ?_)
  | (with_reducible refine r_iteF ?_)
  | (with_reducible refine r_inT ?_)
  | (with_reducible refine r_inF ?_)
  | (with_reducible refine r_intc ?_)
  | (with_reducible refine r_abs ?_)
  | (with_reducible refine r_lst ?_)
  | (with_reducible refine r_tup ?_)
  | (with_reducible refine r_sl ?_)
  | (with_reducible refine r_nopart ?_)
  | (with_reducible refine r_part ?_)
  | (with_reducible refine r_bm ?_)
  | (with_reducible refine r_bm0 ?_)
  | (with_reducible refine r_m1 ?_)
  | (with_reducible refine r_gsub ?_)
  | (with_reducible refine r_drop ?_)
  | (with_reducible refine r_next ?_)
  | (with_reducible refine r_par ?_)
  | (with_reducible refine r_par3 ?_)
  | (with_reducible refine r_par2 ?_)
  | (with_reducible refine r_fld ?_)
  | (with_reducible refine r_sfld ?_)
  | (with_reducible refine r_make ?_)
  | (with_reducible refine r_strI ?_)
  | (with_reducible refine r_min ?_)
  | (with_reducible refine r_max ?_))
local macro_rules | `(tactic| walk_at "len") => `(tactic| (intro _ _ _ _ h; first | (obtain ⟨e, _⟩ := h; subst e; rfl) | (obtain ⟨_, e, _⟩ := h; subst e; rfl) | (obtain ⟨_, _, e, _⟩ := h; subst e; rfl) | (obtain ⟨_, _, _, e, _⟩ := h; subst e; rfl) | (obtain ⟨_, _, _, _, e, _⟩ := h; subst e; rfl) | (obtain ⟨_, _, _, _, _, e, _⟩ := h; subst e; rfl) | (obtain ⟨_, _, _, _, _, _, e, _⟩ := h; subst e; rfl) | (obtain ⟨_, _, _, _, _, _, _, e, _⟩ := h; subst e; rfl) | (obtain ⟨_, _, _, _, _, _, _, _, e, _⟩ := h; subst e; rfl) | (obtain ⟨_, _, _, _, _, _, _, _, _, e, _⟩ := h; subst e; rfl) | (obtain ⟨_, _, _, _, _, _, _, _, _, _, e, _⟩ := h; subst e; rfl) | (obtain ⟨_, _, _, _, _, _, _, _, _, _, _, e, _⟩ := h; subst e; rfl)))

section
variable {P : Program} {w : World} {K : PySem.W.Frag} {mg : Str → Option Value} {base : Heap}
theorem TupT.soft {H : Hp} {v : V} {tabs : List (List Int)} {p : Addr} {o n : HO} (h : H p = some o) (so : Soft o = true) (q : TupT K H v tabs) : TupT K (upd H p n) v tabs := by
  obtain ⟨a, rs, e, q, r⟩ := q
  exact ⟨a, rs, e, SqT.soft h so q, Paired.mapP r fun _ _ ⟨b, e, q⟩ => ⟨b, e, SqT.soft h so q⟩⟩
/-! ### the tables looked at -/
def sp_check_tables (K : PySem.W.Frag) : Sp := fun vs H Q _ => ∃ (v : V) (tabs : List (List Int)) (n : Nat), vs = [v] ∧ TabV K H v tabs ∧ Good tabs n ∧ ∀ t H', Same H H' → TupT K H' t tabs → Q t H'
theorem ok_check_tables {f : Addr} {fd : FuncData} (F : At K mg "check_tables" s_check_tables [] [] f fd) (T : Tx K mg) (c_is_sequence : Cl P w K mg base 1 "is_sequence" (sp_is_sequence K) []) (c_is_table : Cl P w K mg base 4 "is_table" (sp_is_table K) []) : Cl P w K mg base 5 "check_tables" (sp_check_tables K) [] := by
  refine cl_of F sc_check_tables (fun _ _ _ _ _ _ us hl => match us, hl with | [_], _ => rfl) (by walk_at "len") (fun cdv A outer s H vs Q E hr h => ?_)
  obtain ⟨v, tabs, n, rfl, ⟨a, rs, rfl, hs, hrows⟩, G, k⟩ := h
  have hlen : rs.length = tabs.length := paired_len hrows
  obtain ⟨t0, ht0⟩ : ∃ t0, tabs[0]? = some t0 := ⟨_, List.getElem?_eq_getElem (by have := G.ne; omega)⟩
  obtain ⟨r0, hr0⟩ : ∃ r0, rs[0]? = some r0 := ⟨_, List.getElem?_eq_getElem (by have := G.ne; omega)⟩
  obtain ⟨b0, t0', rfl, e0, hb0⟩ := hrows.get hr0
  rw [ht0] at e0
  cases e0
  have hl0 : t0.length = n := G.len t0 (List.mem_of_getElem? ht0)
  have hn1 := G.ne
  have hn4 := G.few
  have g1 := G.n1
  have g8 := G.n8
  have a0 : atI rs 0 = some (.ref b0) := atI_nat hr0
  refine ⟨_, (pss_cons (ps_if (PW.pt (pw_or (pt_not (pt_val (pcl c_is_sequence hr (by decide) rfl (pa_cons (pv 0) pa_nil)))) (pw_or1 (pt_not (pt_chain op_le op_le pe_int (pe_callB (kLen K) rfl T.b_len (by decide +kernel) (pa_cons (pv 0) pa_nil)) (C8.pe_gc rfl T.k_MOST_DEEDS)))))) (pss_one ps_never) pss_nil)
      (pss_cons (ps_set (i := 1) sc_check_tables.nd rfl (Or.inl rfl) (pe_ifExp (pt_val (pcl c_is_sequence hr (by decide) rfl (pa_cons (pe_ix (kIx K) (pv 0) pe_int (fun _ _ => rfl)) pa_nil))) (pe_callB (kLen K) rfl T.b_len (by decide +kernel) (pa_cons (pe_ix (kIx K) (pv 0) pe_int (fun _ _ => rfl)) pa_nil)) pe_int))
      (pss_cons (ps_for PassesOwn.never rfl (pi_enumU rfl T.b_enumerate (pa_cons (pv 0) pa_nil)) (pg_tup rfl (pgs_cons (pg_name (i := 2) sc_check_tables.nd rfl (Or.inl rfl)) (pgs_cons (pg_name (i := 3) sc_check_tables.nd rfl (Or.inl rfl)) pgs_nil)))
      (pss_one (ps_if (PW.pt (pw_or (pt_not (pt_chain op_le op_le pe_int (pv 1) (C8.pe_gc rfl T.k_MOST_STATES))) (pw_or1 (pt_not (pt_val (pcl c_is_table hr (by decide) rfl (pa_cons (pv 3) (pa_cons (pv 1) pa_nil)))))))) (pss_one ps_never) pss_nil)))
      (pss_one (ps_ret (pe_callTy (kTuple K) rfl T.b_tuple (by decide +kernel) (pa_cons (pe_lc (own := [("table", 3)]) (g := gName 3) (tt := tYes) rfl sc_check_tables.nd  (kSeq K (pv 0)) (blkOk_by (by kernel_rfl)) (fun _ _ _ _ _ => (pg_name (i := 3) sc_check_tables.nd rfl (Or.inl rfl))) (fun _ _ _ _ _ => pts_nil) (fun _ _ _ _ _ => (pe_callTy (kTuple K) rfl T.b_tuple (by decide +kernel) (pa_cons (pv 3) pa_nil)))) pa_nil))))))), ?_⟩
  repeat walk_at "s"
  refine ⟨a, rs, rfl, hs, fun H1 s1 => ?_⟩
  repeat walk_at "s"
  refine r_lenQ (hs.same s1) ?_
  repeat walk_at "s"
  rw [decide_eq_true (by omega)]
  repeat walk_at "s"
  rw [decide_eq_true (by omega)]
  repeat walk_at "s"
  refine r_ixQ (hs.same s1) a0 ?_
  repeat walk_at "s"
  refine ⟨b0, _, rfl, hb0.same s1, fun H2 s2 => ?_⟩
  have s02 := s1.trans s2
  repeat walk_at "s"
  refine r_ixQ (hs.same s02) a0 ?_
  repeat walk_at "s"
  refine r_lenQ (hb0.same s02) ?_
  repeat walk_at "s"
  rw [List.length_map, hl0]
  refine r_for (r_ienumV (hs.same s02) rfl fun J Gd hG wk => ?_)
  refine for_ask wk (fun i σ H' => ∃ x y, σ = [some (.ref a), some (.int n), x, y] ∧ Same H2 H') ⟨_, _, rfl, Same.refl _⟩ (fun i σ H' _ ⟨_, _, _, s⟩ => hG _ s) ?_ ?_
  · rintro i x σ H3 H4 hi ⟨x1, y1, rfl, s3⟩ ⟨T, x, y, rfl, hT, rfl, hx, hy⟩
    cases hx
    obtain ⟨b, t, rfl, ht, hb⟩ := hrows.get hy
    have s4 : Same H2 (upd H3 T (.tup [.int (i : Nat), .ref b])) := s3.trans (same_upd hT)
    refine r_gpair upd_same ?_
    have hlt : t.length = n := G.len t (List.mem_of_getElem? ht)
    repeat walk_at "s"
    rw [decide_eq_true (by omega)]
    repeat walk_at "s"
    rw [decide_eq_true (by omega)]
    repeat walk_at "s"
    refine ⟨b, t, n, rfl, hb.same (s02.trans s4), hlt, g8, G.bnd t (List.mem_of_getElem? ht), fun H5 s5 => ?_⟩
    repeat walk_at "s"
    exact ⟨_, _, rfl, s4.trans s5⟩
  · rintro σ H3 ⟨x1, y1, rfl, s3⟩
    have s03 := s02.trans s3
    repeat walk_at "s"
    refine r_lc (r_iseqV (hs.same s03) rfl fun J Gd hG wk D hD => ?_)
    refine lc_map wk hD (by omega) hG (fun j y H => ∃ b t, y = .ref b ∧ tabs[j]? = some t ∧ SqT K H b (t.map V.int))
      (fun j y Ha Hb s ⟨b, t, e1, e2, e3⟩ => ⟨b, t, e1, e2, SqT.ext e3 s⟩) (fun j y Ha us zs hd ⟨b, t, e1, e2, e3⟩ => ⟨b, t, e1, e2, SqT.soft hd rfl e3⟩) ?_ walk_same ?_
    · rintro i x H' H'' hi s34 s34' _ ⟨rfl, hx⟩ N1 kN
      obtain ⟨b, t, rfl, ht, hb⟩ := hrows.get hx
      repeat walk_at "s"
      rcases hb.same (s03.trans s34) with hb | hb
      · refine r_tupL hb fun l hl => kN _ _ (same_upd hl) ⟨l, t, rfl, ht, SqT.of upd_same⟩
      · exact r_tupT hb (kN _ _ (Same.refl _) ⟨b, t, rfl, ht, hb⟩)
    · intro H' ys s34 hD' hy ha
      repeat walk_at "s"
      refine r_tupL (SqL.of hD') fun l hl => ?_
      refine k _ _ (s03.trans (s34.trans (same_upd hl))) ⟨l, ys, rfl, SqT.of upd_same, paired_of (by omega) fun j y e => ?_⟩
      obtain ⟨b, t, e1, e2, e3⟩ := ha j y e
      exact ⟨t, e2, b, e1, SqT.ext e3 (same_upd hl)⟩
end
end P45

namespace P45
open PySem PySem.Spec PyProof.Rows L2 Pg
local macro_rules | `(tactic| walk_at "s") => `(tactic| first
  | ((with_reducible refine r_var (v := ?v) ?h ?q); case h => rfl)
  | (with_reducible refine r_c ?_)
  | (with_reducible refine r_op ?_)
  | (with_reducible refine r_un ?_)
  | (with_reducible refine r_I0 ?_)
  | (with_reducible refine r_U ?_)
  | (with_reducible refine r_addI ?_)
  | (with_reducible refine r_eqI ?_)
  | (with_reducible refine r_neI ?_)
  | (with_reducible refine r_eqT ?_)
  | (with_reducible refine r_neT ?_)
  | (with_reducible refine r_seq ?_)
  | (with_reducible refine r_asg ?_)
  | ((with_reducible refine r_name (σ' := ?s) ?h ?q); case h => (simp only [List.set_cons_zero, List.set_cons_succ, L2.start, List.map_cons, List.map_nil, List.length_cons, List.length_nil, List.cons_append, List.nil_append, List.replicate_succ, List.replicate_zero, Nat.reduceAdd, Nat.reduceSub]; rfl))
  | (with_reducible refine r_cons ?_)
  | (with_reducible refine r_nil ?_)
  | (with_reducible refine r_call ?_)
  | (with_reducible refine r_cb ?_)
  | (with_reducible refine r_ret ?_)
  | (with_reducible refine r_retN ?_)
  | (with_reducible refine r_ifs ?_)
  | (with_reducible refine r_if ?_)
  | (with_reducible refine r_tt ?_)
  | (with_reducible refine r_tb ?_)
  | (with_reducible refine r_tand ?_)
  | (with_reducible refine r_tor ?_)
  | (with_reducible refine r_tnot ?_)
  | (with_reducible refine r_and ?_)
  | (with_reducible refine r_or ?_)
  | (with_reducible refine r_not ?_)
  | (with_reducible refine r_chain ?_)
  | (with_reducible refine r_bl ?_)
  | (with_reducible refine r_int ?_)
  | (with_reducible refine r_iteT ?_)
  | (with_reducible refine r_iteF ?_)
  | (with_reducible refine r_inT ?_)
  | (with_reducible refine r_inF ?_)
  | (with_reducible refine r_intc ?_)
  | (with_reducible refine r_abs ?_)
  | (with_reducible refine r_lst ?_)
  | (with_reducible refine r_tup ?_)
  | (with_reducible refine r_sl ?_)
  | (with_reducible refine r_nopart ?_)
  | (with_reducible refine r_part ?_)
  | (with_reducible refine r_bm ?_)
  | (with_reducible refine r_bm0 ?_)
  | (with_reducible refine r_m1 ?_)
  | (with_reducible refine r_gsub ?_)
  | (with_reducible refine r_drop ?_)
  | (with_reducible refine r_next ?_)
  | (with_reducible refine r_par ?_)
  | (with_reducible refine r_par3 ?_)
  | (with_reducible refine r_par2 ?_)
  | (with_reducible refine r_fld ?_)
  | (with_reducible refine r_sfld ?_)
  | (with_reducible refine r_make ?_)
  | (with_reducible refine r_strI ?_)
  | (with_reducible refine r_min ?_)
  | (with_reducible refine r_max ?_))
local macro_rules | `(tactic| walk_at "n") => `(tactic| first
  | ((with_reducible refine r_var (v := ?v) ?h ?q); case h => rfl)
  | (with_reducible refine r_c ?_)
  | (with_reducible refine r_op ?_)
  | (with_reducible refine r_un ?_)
  | (with_reducible refine r_I0 ?_)
  | (with_reducible refine r_U ?_)
  | (with_reducible refine r_addI ?_)
  | (with_reducible refine r_eqI ?_)
  | (with_reducible refine r_neI ?_)
  | (with_reducible refine r_eqT ?_)
  | (with_reducible refine r_neT ?_)
  | (with_reducible refine r_asg ?_)
  | ((with_reducible refine r_name (σ' := ?s) ?h ?q); case h => (simp only [List.set_cons_zero, List.set_cons_succ, L2.start, List.map_cons, List.map_nil, List.length_cons, List.length_nil, List.cons_append, List.nil_append, List.replicate_succ, List.replicate_zero, Nat.reduceAdd, Nat.reduceSub]; rfl))
  | (with_reducible refine r_cons ?_)
  | (with_reducible refine r_nil ?_)
  | (with_reducible refine r_call ?_)
  | (with_reducible refine r_cb ?_)
  | (with_reducible refine r_ret ?_)
  | (with_reducible refine r_retN ?_)
  | (with_reducible refine r_ifs ?_)
  | (with_reducible refine r_if ?_)
  | (with_reducible refine r_tt ?_)
  | (with_reducible refine r_tb ?_)
  | (with_reducible refine r_tand ?_)
  | (with_reducible refine r_tor ?_)
  | (with_reducible refine r_tnot ?_)
  | (with_reducible refine r_and ?_)
  | (with_reducible refine r_or ?_)
  | (with_reducible refine r_not ?_)
  | (with_reducible refine r_chain ?_)
  | (with_reducible refine r_bl ?_)
  | (with_reducible refine r_int ?_)
  | (with_reducible refine r_iteT ?_)
  | (with_reducible refine r_iteF ?_)
  | (with_reducible refine r_inT ?_)
  | (with_reducible refine r_inF ?_)
  | (with_reducible refine r_intc ?_)
  | (with_reducible refine r_abs ?_)
  | (with_reducible refine r_lst ?_)
  | (with_reducible refine r_tup ?_)
  | (with_reducible refine r_sl ?_)
  | (with_reducible refine r_nopart ?_)
  | (with_reducible refine r_part ?_)
  | (with_reducible refine r_bm ?_)
  | (with_reducible refine r_bm0 ?_)
  | (with_reducible refine r_m1 ?_)
  | (with_reducible refine r_gsub ?_)
  | (with_reducible refine r_drop ?_)
  | (with_reducible refine r_next ?_)
  | (with_reducible refine r_par ?_)
  | (with_reducible refine r_par3 ?_)
  | (with_reducible refine r_par2 ?_)
  | (with_reducible refine r_fld ?_)
  | (with_reducible refine r_sfld ?_)
  | (with_reducible refine r_make ?_)
  | (with_reducible refine r_strI ?_)
  | (with_reducible refine r_min ?_)
  | (with_reducible refine r_max ?_))
local macro_rules | `(tactic| walk_at "len") => `(tactic| (intro _ _ _ _ h; first | (obtain ⟨e, _⟩ := h; subst e; rfl) | (obtain ⟨_, e, _⟩ := h; subst e; rfl) | (obtain ⟨_, _, e, _⟩ := h; subst e; rfl) | (obtain ⟨_, _, _, e, _⟩ := h; subst e; rfl) | (obtain ⟨_, _, _, _, e, _⟩ := h; subst e; rfl) | (obtain ⟨_, _, _, _, _, e, _⟩ := h; subst e; rfl) | (obtain ⟨_, _, _, _, _, _, e, _⟩ := h; subst e; rfl) | (obtain ⟨_, _, _, _, _, _, _, e, _⟩ := h; subst e; rfl) | (obtain ⟨_, _, _, _, _, _, _, _, e, _⟩ := h; subst e; rfl) | (obtain ⟨_, _, _, _, _, _, _, _, _, e, _⟩ := h; subst e; rfl) | (obtain ⟨_, _, _, _, _, _, _, _, _, _, e, _⟩ := h; subst e; rfl) | (obtain ⟨_, _, _, _, _, _, _, _, _, _, _, e, _⟩ := h; subst e; rfl)))

abbrev cM (K : PySem.W.Frag) : Addr := He.ga K "Machine"
abbrev cL (K : PySem.W.Frag) : Addr := He.ga K "Link"
section
variable {P : Program} {w : World} {K : PySem.W.Frag} {mg : Str → Option Value} {base : Heap}
theorem RowsT.dp {H : Hp} {rs : List V} {tabs : List (List Int)} (h : RowsT K H rs tabs) : DpAll K H rs (tabs.map dT) :=
  dpAll_of (Paired.mapP h fun _ t ⟨b, e, q⟩ => by rw [e]; exact .tup q (dpAll_ints t))
theorem TupT.dp {H : Hp} {v : V} {tabs : List (List Int)} (h : TupT K H v tabs) : Dp K H v (dTT tabs) := by
  obtain ⟨a, rs, rfl, q, r⟩ := h
  exact .tup q r.dp
/-! ### a machine -/
/-- the fields of a machine -/
def mf (t : V) (d n : Int) : List (Str × V) := [("tables", t), ("deeds", V.int d), ("states", V.int n)]
theorem mf_put (t : V) (d n : Int) : putF "states" (.int n) (putF "deeds" (.int d) (putF "tables" t [])) = mf t d n := by rfl
theorem mf_t (t : V) (d n : Int) : (mf t d n).lookup ("tables" : Str) = some t := by rfl
theorem mf_d (t : V) (d n : Int) : (mf t d n).lookup ("deeds" : Str) = some (.int d) := by rfl
theorem mf_n (t : V) (d n : Int) : (mf t d n).lookup ("states" : Str) = some (.int n) := by rfl
structure MachAt (K : PySem.W.Frag) (H : Hp) (p : Addr) (tabs : List (List Int)) (n : Nat) : Prop where
  good : Good tabs n
  at_ : ∃ dx t, H p = some (.ins (cM K) dx (mf t tabs.length n)) ∧ TupT K H t tabs
theorem MachAt.same {H H' : Hp} {p : Addr} {tabs : List (List Int)} {n : Nat} (s : Same H H') (h : MachAt K H p tabs n) : MachAt K H' p tabs n := by
  obtain ⟨g, dx, t, e, q⟩ := h
  exact ⟨g, dx, t, s _ _ e, q.same s⟩
def sp_Machine (K : PySem.W.Frag) : Sp := fun vs H Q _ => ∃ (p dx : Addr) (v : V) (tabs : List (List Int)) (n : Nat), vs = [.ref p, v] ∧ H p = some (.ins (cM K) dx []) ∧ TabV K H v tabs ∧ Good tabs n ∧
  ∀ t H1, Same H H1 → TupT K H1 t tabs → Q .non (upd H1 p (.ins (cM K) dx (mf t tabs.length n)))
theorem ok_Machine {f : Addr} {fd : FuncData} (F : FunD K "__init__" "Machine.__init__" (defArgs s_Machine___init__) (defBody s_Machine___init__) (defScope s_Machine___init__) [] [] f fd) (M : Mk K (He.ga K "Machine") f) (T : Tx K mg) (c_check_tables : Cl P w K mg base 5 "check_tables" (sp_check_tables K) []) : Cm P w K mg base 6 "Machine" (He.ga K "Machine") (sp_Machine K) [] := by
  refine cm_of F M T.g_Machine sc_Machine___init__ (fun _ _ _ _ _ _ us hl => match us, hl with | [_, _], _ => rfl) (by walk_at "len") (fun cdv A outer s H vs Q E hr h => ?_)
  obtain ⟨p, dx, v, tabs, n, rfl, hp, hv, G, k⟩ := h
  refine ⟨_, (pss_cons (ps_fld (pv 0) (pcl c_check_tables hr (by decide) rfl (pa_cons (pv 1) pa_nil)) rfl)
      (pss_cons (ps_fld (pv 0) (pe_callB (kLen K) rfl T.b_len (by decide +kernel) (pa_cons (kFld K (pv 0) rfl) pa_nil)) rfl)
      (pss_one (ps_fld (pv 0) (pe_callB (kLen K) rfl T.b_len (by decide +kernel) (pa_cons (pe_ix (kIx K) (kFld K (pv 0) rfl) pe_int (fun _ _ => rfl)) pa_nil)) rfl)))), ?_⟩
  repeat walk_at "s"
  refine ⟨v, tabs, n, rfl, hv, G, fun t H1 s1 ht => ?_⟩
  have hp1 := s1 _ _ hp
  have g1 := G.ne
  obtain ⟨a, rs, rfl, hs, hr⟩ := id ht
  have hlen : rs.length = tabs.length := paired_len hr
  repeat walk_at "s"
  refine ⟨p, cM K, dx, [], rfl, hp1, T.i_Machine.cl, T.n_Machine_tables, (by show 0 < 1000; decide), ?_⟩
  repeat walk_at "s"
  refine ⟨p, cM K, dx, _, _, rfl, upd_same, T.i_Machine.cl, T.n_Machine_tables, (by rfl), ?_⟩
  have hs2 : ∀ o, SqT K (upd H1 p o) a rs := fun o => SqT.soft hp1 rfl hs
  repeat walk_at "s"
  refine r_lenT (hs2 _) ?_
  repeat walk_at "s"
  refine ⟨p, cM K, dx, _, rfl, upd_same, T.i_Machine.cl, T.n_Machine_deeds, (by show 1 < 1000; decide), ?_⟩
  repeat walk_at "s"
  rw [upd_upd]
  refine ⟨p, cM K, dx, _, _, rfl, upd_same, T.i_Machine.cl, T.n_Machine_tables, (by rfl), ?_⟩
  obtain ⟨t0, ht0⟩ : ∃ t0, tabs[0]? = some t0 := ⟨_, List.getElem?_eq_getElem (by omega)⟩
  obtain ⟨r0, hr0⟩ : ∃ r0, rs[0]? = some r0 := ⟨_, List.getElem?_eq_getElem (by omega)⟩
  obtain ⟨t0', e0, b0, rfl, hb0⟩ := paired_at hr hr0
  rw [ht0] at e0
  cases e0
  have hl0 : t0.length = n := G.len t0 (List.mem_of_getElem? ht0)
  repeat walk_at "s"
  refine r_ixT (hs2 _) (atI_nat hr0) ?_
  repeat walk_at "s"
  refine r_lenT (SqT.soft hp1 rfl hb0) ?_
  repeat walk_at "s"
  refine ⟨p, cM K, dx, _, rfl, upd_same, T.i_Machine.cl, T.n_Machine_states, (by show 2 < 1000; decide), ?_⟩
  rw [upd_upd, List.length_map, hl0, hlen]
  exact k _ _ s1 ht
/-- what a caller of Machine(v) gets -/
theorem made_machine {H : Hp} {Z : Addr → Hp → Prop} {v : V} {tabs : List (List Int)} {n : Nat} (hv : TabV K H v tabs) (G : Good tabs n) (k : ∀ x H', Same H H' → H x = none → MachAt K H' x tabs n → Z x H') :
    ∀ x dx, H x = none → H dx = none → dx ≠ x → sp_Machine K (.ref x :: ([v] ++ [])) (upd (upd H dx (.own x)) x (.ins (cM K) dx [])) (fun r H2 => r = .non ∧ Z x H2) E0 := by
  intro x dx hx hdx ne
  have s0 : Same H (upd (upd H dx (.own x)) x (.ins (cM K) dx [])) := fun b o e => by rw [upd_ne (ne_of_none e hx), upd_ne (ne_of_none e hdx)]; exact e
  refine ⟨x, dx, v, tabs, n, rfl, upd_same, hv.same s0, G, fun t H1 s1 ht => ⟨rfl, ?_⟩⟩
  have hx1 : H1 x = some (.ins (cM K) dx []) := s1 _ _ upd_same
  exact k x _ (Pg.Same.upd (s0.trans s1) hx) hx ⟨G, dx, t, upd_same, ht.soft hx1 rfl⟩
/-- y is no machine -/
def NotC (K : PySem.W.Frag) (C : Addr) (H : Hp) (y : V) : Prop := ∃ t, TyX K H y t ∧ PySem.W.kitOne K t (.ref C) = some false
theorem ty_ins {H : Hp} {p C dx : Addr} {fs : List (Str × V)} (h : H p = some (.ins C dx fs)) (i : C8.InsC K C) : TyX K H (.ref p) (.ref C) := .base (.ins h i.cl i.ha i.hn i.htk i.hm)
def sp_Machine___eq__ (K : PySem.W.Frag) : Sp := fun vs H Q _ => ∃ (p : Addr) (y : V) (tabs : List (List Int)) (n : Nat), vs = [.ref p, y] ∧ MachAt K H p tabs n ∧
  ((∃ (q : Addr) (tabs' : List (List Int)) (n' : Nat), y = .ref q ∧ MachAt K H q tabs' n' ∧ Q (.bl (decide (tabs = tabs'))) H) ∨ (NotC K (cM K) H y ∧ Q (.bl false) H))
theorem ok_Machine___eq__ {f : Addr} {fd : FuncData} (F : FunD K "__eq__" "Machine.__eq__" (defArgs s_Machine___eq__) (defBody s_Machine___eq__) (defScope s_Machine___eq__) [] [] f fd) (M : Meth K (He.ga K "Machine") "__eq__" f) (hne : PySem.W.findIn K (.ref (He.ga K "Machine")) "__ne__" = some (some (.builtin "object.__ne__"))) (T : Tx K mg)  : EqOf P w K mg base 1 (He.ga K "Machine") (sp_Machine___eq__ K) := by
  refine eqOf_of F M hne T.i_Machine.hm sc_Machine___eq__ (fun _ _ _ _ _ _ us hl => match us, hl with | [_, _], _ => rfl) (by walk_at "len") (fun cdv A outer s H vs Q E hr h => ?_)
  obtain ⟨p, y, tabs, n, rfl, ⟨G, dx, t, hp, ht⟩, alt⟩ := h
  refine ⟨_, (pss_one (ps_ret (pe_and (pe_callB (kIsi K) rfl T.b_isinstance (by decide +kernel) (pa_cons (pv 1) (pa_cons (pe_glob (v := .ref (He.ga K "Machine")) rfl T.g_Machine rfl) pa_nil))) (pe_one (pe_cmpR (kEq K hr) (kFld K (pv 0) rfl) (kFld K (pv 1) rfl) (nomark _)))))), ?_⟩
  repeat walk_at "s"
  rcases alt with ⟨q, tabs', n', rfl, ⟨G', dy, t', hq, ht'⟩, k⟩ | ⟨⟨ty, h1, h2⟩, k⟩
  · refine r_isiC (ty_ins hq T.i_Machine) T.i_Machine.me ?_
    repeat walk_at "s"
    refine ⟨p, cM K, dx, _, _, rfl, hp, T.i_Machine.cl, T.n_Machine_tables, mf_t _ _ _, ?_⟩
    repeat walk_at "s"
    refine ⟨q, cM K, dy, _, _, rfl, hq, T.i_Machine.cl, T.n_Machine_tables, mf_t _ _ _, ?_⟩
    refine r_eqD ht.dp ht'.dp (sh_dTT _) (sh_dTT _) ?_
    rw [eqv_dTT]
    exact k
  · refine r_isiC h1 h2 ?_
    repeat walk_at "s"
    exact k
/-! ### a link -/
def sp_need_state (K : PySem.W.Frag) : Sp := fun vs H Q _ => ∃ (m : Addr) (s : Int) (tabs : List (List Int)) (n : Nat), vs = [.ref m, .int s] ∧ MachAt K H m tabs n ∧ 0 ≤ s ∧ s < (n : Int) ∧ Q (.int s) H
theorem ok_need_state {f : Addr} {fd : FuncData} (F : At K mg "need_state" s_need_state [] [] f fd) (T : Tx K mg) (c_is_below : Cl P w K mg base 3 "is_below" (sp_is_below K) []) : Cl P w K mg base 4 "need_state" (sp_need_state K) [] := by
  refine cl_of F sc_need_state (fun _ _ _ _ _ _ us hl => match us, hl with | [_, _], _ => rfl) (by walk_at "len") (fun cdv A outer s H vs Q E hr h => ?_)
  obtain ⟨m, z, tabs, n, rfl, ⟨G, dx, t, hp, ht⟩, h0, h1, k⟩ := h
  refine ⟨_, (pss_cons (ps_if (pt_not (pt_val (pcl c_is_below hr (by decide) rfl (pa_cons (pv 1) (pa_cons (kFld K (pv 0) rfl) pa_nil))))) (pss_one ps_never) pss_nil)
      (pss_one (ps_ret (pv 1)))), ?_⟩
  repeat walk_at "s"
  refine ⟨m, cM K, dx, _, _, rfl, hp, T.i_Machine.cl, T.n_Machine_states, mf_n _ _ _, ?_⟩
  repeat walk_at "s"
  refine ⟨z, n, rfl, ?_⟩
  rw [decide_eq_true ⟨h0, h1⟩]
  repeat walk_at "s"
  exact k
end
end P45

namespace P45
open PySem PySem.Spec PyProof.Rows L2 Pg
local macro_rules | `(tactic| walk_at "s") => `(tactic| first
  | ((with_reducible refine r_var (v := ?v) ?h ?q); case h => rfl)
  | (with_reducible refine r_c ?_)
  | (with_reducible refine r_op ?_)
  | (with_reducible refine r_un ?_)
  | (with_reducible refine r_I0 ?_)
  | (with_reducible refine r_U ?_)
  | (with_reducible refine r_addI ?_)
  | (with_reducible refine r_eqI ?_)
  | (with_reducible refine r_neI ?_)
  | (with_reducible refine r_eqT ?_)
  | (with_reducible refine r_neT ?_)
  | (with_reducible refine r_seq ?_)
  | (with_reducible refine r_asg ?_)
  | ((with_reducible refine r_name (σ' := ?s) ?h ?q); case h => (simp only [List.set_cons_zero, List.set_cons_succ, L2.start, List.map_cons, List.map_nil, List.length_cons, List.length_nil, List.cons_append, List.nil_append, List.replicate_succ, List.replicate_zero, Nat.reduceAdd, Nat.reduceSub]; rfl))
  | (with_reducible refine r_cons ?_)
  | (with_reducible refine r_nil ?_)
  | (with_reducible refine r_call ?_)
  | (with_reducible refine r_cb ?_)
  | (with_reducible refine r_ret ?_)
  | (with_reducible refine r_retN ?_)
  | (with_reducible refine r_ifs ?_)
  | (with_reducible refine r_if ?_)
  | (with_reducible refine r_tt ?_)
  | (with_reducible refine r_tb ?_)
  | (with_reducible refine r_tand ?_)
  | (with_reducible refine r_tor ?_)
  | (with_reducible refine r_tnot ?_)
  | (with_reducible refine r_and ?_)
  | (with_reducible refine r_or ?_)
  | (with_reducible refine r_not ?_)
  | (with_reducible refine r_chain ?_)
  | (with_reducible refine r_bl ?_)
  | (with_reducible refine r_int ?_)
  | (with_reducible refine r_iteT ?_)
  | (with_reducible refine r_iteF ?_)
  | (with_reducible refine r_inT ?_)
  | (with_reducible refine r_inF ?_)
  | (with_reducible refine r_intc ?_)
  | (with_reducible refine r_abs ?_)
  | (with_reducible refine r_lst ?_)
  | (with_reducible refine r_tup ?_)
  | (with_reducible refine r_sl ?_)
  | (with_reducible refine r_nopart ?_)
  | (with_reducible refine r_part ?_)
  | (with_reducible refine r_bm ?_)
  | (with_reducible refine r_bm0 ?_)
  | (with_reducible refine r_m1 ?_)
  | (with_reducible refine r_gsub ?_)
  | (with_reducible refine r_drop ?_)
  | (with_reducible refine r_next ?_)
  | (with_reducible refine r_par ?_)
  | (with_reducible refine r_par3 ?_)
  | (with_reducible refine r_par2 ?_)
  | (with_reducible refine r_fld ?_)
  | (with_reducible refine r_sfld ?_)
  | (with_reducible refine r_make ?_)
  | (with_reducible refine r_strI ?_)
  | (with_reducible refine r_min ?_)
  | (with_reducible refine r_max ?_))
local macro_rules | `(tactic| walk_at "n") => `(tactic| first
  | ((with_reducible refine r_var (v := ?v) ?h ?q); case h => rfl)
  | (with_reducible refine r_c ?_)
  | (with_reducible refine r_op ?_)
  | (with_reducible refine r_un ?_)
  | (with_reducible refine r_I0 ?_)
  | (with_reducible refine r_U ?_)
  | (with_reducible refine r_addI ?_)
  | (with_reducible refine r_eqI ?_)
  | (with_reducible refine r_neI ?_)
  | (with_reducible refine r_eqT ?_)
  | (with_reducible refine r_neT ?_)
  | (with_reducible refine r_asg ?_)
  | ((with_reducible refine r_name (σ' := ?s) ?h ?q); case h => (simp only [List.set_cons_zero, List.set_cons_succ, L2.start, List.map_cons, List.map_nil, List.length_cons, List.length_nil, List.cons_append, List.nil_append, List.replicate_succ, List.replicate_zero, Nat.reduceAdd, Nat.reduceSub]; rfl))
  | (with_reducible refine r_cons ?_)
  | (with_reducible refine r_nil ?_)
  | (with_reducible refine r_call ?_)
  | (with_reducible refine r_cb ?_)
  | (with_reducible refine r_ret ?_)
  | (with_reducible refine r_retN ?_)
  | (with_reducible refine r_ifs ?_)
  | (with_reducible refine r_if ?_)
  | (with_reducible refine r_tt ?_)
  | (with_reducible refine r_tb ?_)
  | (with_reducible refine r_tand ?_)
  | (with_reducible refine r_tor ?_)
  | (with_reducible refine r_tnot ?_)
  | (with_reducible refine r_and ?_)
  | (with_reducible refine r_or ?_)
  | (with_reducible refine r_not ?_)
  | (with_reducible refine r_chain ?_)
  | (with_reducible refine r_bl ?_)
  | (with_reducible refine r_int ?_)
  | (with_reducible refine r_iteT ?_)
  | (with_reducible refine r_iteF ?_)
  | (with_reducible refine r_inT ?_)
  | (with_reducible refine r_inF ?_)
  | (with_reducible refine r_intc ?_)
  | (with_reducible refine r_abs ?_)
  | (with_reducible refine r_lst ?_)
  | (with_reducible refine r_tup ?_)
  | (with_reducible refine r_sl ?_)
  | (with_reducible refine r_nopart ?_)
  | (with_reducible refine r_part ?_)
  | (with_reducible refine r_bm ?_)
  | (with_reducible refine r_bm0 ?_)
  | (with_reducible refine r_m1 ?_)
  | (with_reducible refine r_gsub ?_)
  | (with_reducible refine r_drop ?_)
  | (with_reducible refine r_next ?_)
  | (with_reducible refine r_par ?_)
  | (with_reducible refine r_par3 ?_)
  | (with_reducible refine r_par2 ?_)
  | (with_reducible refine r_fld ?_)
  | (with_reducible refine r_sfld ?_)
  | (with_reducible refine r_make ?_)
  | (with_reducible refine r_strI ?_)
  | (with_reducible refine r_min ?_)
  | (with_reducible refine r_max ?_))
local macro_rules | `(tactic| walk_at "len") => `(tactic| (intro _ _ _ _ h; first | (obtain ⟨e, _⟩ := h; subst e; rfl) | (obtain ⟨_, e, _⟩ := h; subst e; rfl) | (obtain ⟨_, _, e, _⟩ := h; subst e; rfl) | (obtain ⟨_, _, _, e, _⟩ := h; subst e; rfl) | (obtain ⟨_, _, _, _, e, _⟩ := h; subst e; rfl) | (obtain ⟨_, _, _, _, _, e, _⟩ := h; subst e; rfl) | (obtain ⟨_, _, _, _, _, _, e, _⟩ := h; subst e; rfl) | (obtain ⟨_, _, _, _, _, _, _, e, _⟩ := h; subst e; rfl) | (obtain ⟨_, _, _, _, _, _, _, _, e, _⟩ := h; subst e; rfl) | (obtain ⟨_, _, _, _, _, _, _, _, _, e, _⟩ := h; subst e; rfl) | (obtain ⟨_, _, _, _, _, _, _, _, _, _, e, _⟩ := h; subst e; rfl) | (obtain ⟨_, _, _, _, _, _, _, _, _, _, _, e, _⟩ := h; subst e; rfl)))

section
variable {P : Program} {w : World} {K : PySem.W.Frag} {mg : Str → Option Value} {base : Heap}
structure Nums where
  f : Int
  l : Int
  o : Int
  q : Int
  deriving DecidableEq
def lf (m : Addr) (a : Nums) : List (Str × V) := [("machine", .ref m), ("first", .int a.f), ("length", .int a.l), ("loss", .int a.o), ("modulus", .int a.q)]
theorem lf_put (m : Addr) (a : Nums) : putF "modulus" (.int a.q) (putF "loss" (.int a.o) (putF "length" (.int a.l) (putF "first" (.int a.f) (putF "machine" (.ref m) [])))) = lf m a := by rfl
theorem lf_m (m : Addr) (a : Nums) : (lf m a).lookup ("machine" : Str) = some (.ref m) := by rfl
theorem lf_f (m : Addr) (a : Nums) : (lf m a).lookup ("first" : Str) = some (.int a.f) := by rfl
theorem lf_l (m : Addr) (a : Nums) : (lf m a).lookup ("length" : Str) = some (.int a.l) := by rfl
theorem lf_o (m : Addr) (a : Nums) : (lf m a).lookup ("loss" : Str) = some (.int a.o) := by rfl
theorem lf_q (m : Addr) (a : Nums) : (lf m a).lookup ("modulus" : Str) = some (.int a.q) := by rfl
structure NumOk (n : Nat) (a : Nums) : Prop where
  f0 : 0 ≤ a.f
  f1 : a.f < (n : Int)
  l0 : 0 ≤ a.l
  l1 : a.l ≤ 12
  o0 : 0 ≤ a.o
  o1 : a.o ≤ 8
  q0 : 1 ≤ a.q
  q1 : a.q ≤ 9
structure LinkAt (K : PySem.W.Frag) (H : Hp) (p m : Addr) (a : Nums) (tabs : List (List Int)) (n : Nat) : Prop where
  ok : NumOk n a
  mach : MachAt K H m tabs n
  at_ : ∃ dx, H p = some (.ins (cL K) dx (lf m a))
theorem LinkAt.same {H H' : Hp} {p m : Addr} {a : Nums} {tabs : List (List Int)} {n : Nat} (s : Same H H') (h : LinkAt K H p m a tabs n) : LinkAt K H' p m a tabs n := by
  obtain ⟨g, q, dx, e⟩ := h
  exact ⟨g, q.same s, dx, s _ _ e⟩
def sp_Link (K : PySem.W.Frag) : Sp := fun vs H Q _ => ∃ (p dx m : Addr) (a : Nums) (tabs : List (List Int)) (n : Nat), vs = [.ref p, .ref m, .int a.f, .int a.l, .int a.o, .int a.q] ∧ H p = some (.ins (cL K) dx []) ∧ MachAt K H m tabs n ∧ NumOk n a ∧
  Q .non (upd H p (.ins (cL K) dx (lf m a)))
theorem ok_Link {f : Addr} {fd : FuncData} (F : FunD K "__init__" "Link.__init__" (defArgs s_Link___init__) (defBody s_Link___init__) (defScope s_Link___init__) [V.int 1] [] f fd) (M : Mk K (He.ga K "Link") f) (T : Tx K mg) (c_need_state : Cl P w K mg base 4 "need_state" (sp_need_state K) []) (c_is_within : Cl P w K mg base 2 "is_within" (sp_is_within K) []) : Cm P w K mg base 5 "Link" (He.ga K "Link") (sp_Link K) [] := by
  refine cm_ofD F M T.g_Link sc_Link___init__ (by simp) (fun _ _ _ _ _ _ _ us its hl h2 => match us, its, hl, h2 with | [_, _, _, _, _, _], [_], _, _ => ⟨_, rfl, rfl⟩) (by walk_at "len") (fun cdv A outer s H vs Q E hr h => ?_)
  obtain ⟨p, dx, m, a, tabs, n, rfl, hp, hm, O, k⟩ := h
  refine ⟨_, (pss_cons (ps_expr (pcl c_need_state hr (by decide) rfl (pa_cons (pv 1) (pa_cons (pv 2) pa_nil))))
      (pss_cons (ps_if (pt_not (pt_val (pcl c_is_within hr (by decide) rfl (pa_cons (pv 3) (pa_cons pe_int (pa_cons (C8.pe_gc rfl T.k_MOST_LENGTH) pa_nil)))))) (pss_one ps_never) pss_nil)
      (pss_cons (ps_if (pt_not (pt_val (pcl c_is_within hr (by decide) rfl (pa_cons (pv 4) (pa_cons pe_int (pa_cons (C8.pe_gc rfl T.k_MOST_LOSS) pa_nil)))))) (pss_one ps_never) pss_nil)
      (pss_cons (ps_if (pt_not (pt_val (pcl c_is_within hr (by decide) rfl (pa_cons (pv 5) (pa_cons pe_int (pa_cons (C8.pe_gc rfl T.k_MOST_MODULUS) pa_nil)))))) (pss_one ps_never) pss_nil)
      (pss_cons (ps_fld (pv 0) (pv 1) rfl)
      (pss_cons (ps_fld (pv 0) (pv 2) rfl)
      (pss_cons (ps_fld (pv 0) (pv 3) rfl)
      (pss_cons (ps_fld (pv 0) (pv 4) rfl)
      (pss_one (ps_fld (pv 0) (pv 5) rfl)))))))))), ?_⟩
  repeat walk_at "s"
  refine ⟨m, a.f, tabs, n, rfl, hm, O.f0, O.f1, ?_⟩
  repeat walk_at "s"
  refine ⟨a.l, 0, 12, rfl, ?_⟩
  rw [decide_eq_true ⟨O.l0, O.l1⟩]
  repeat walk_at "s"
  refine ⟨a.o, 0, 8, rfl, ?_⟩
  rw [decide_eq_true ⟨O.o0, O.o1⟩]
  repeat walk_at "s"
  refine ⟨a.q, 1, 9, rfl, ?_⟩
  rw [decide_eq_true ⟨O.q0, O.q1⟩]
  repeat walk_at "s"
  refine ⟨p, cL K, dx, _, rfl, hp, T.i_Link.cl, T.n_Link_machine, (by show 0 < 1000; decide), ?_⟩
  repeat walk_at "s"
  refine ⟨p, cL K, dx, _, rfl, upd_same, T.i_Link.cl, T.n_Link_first, (by show 1 < 1000; decide), ?_⟩
  rw [upd_upd]
  repeat walk_at "s"
  refine ⟨p, cL K, dx, _, rfl, upd_same, T.i_Link.cl, T.n_Link_length, (by show 2 < 1000; decide), ?_⟩
  rw [upd_upd]
  repeat walk_at "s"
  refine ⟨p, cL K, dx, _, rfl, upd_same, T.i_Link.cl, T.n_Link_loss, (by show 3 < 1000; decide), ?_⟩
  rw [upd_upd]
  repeat walk_at "s"
  refine ⟨p, cL K, dx, _, rfl, upd_same, T.i_Link.cl, T.n_Link_modulus, (by show 4 < 1000; decide), ?_⟩
  rw [upd_upd]
  exact k
/-- what a caller of Link(m, f, l, o, q) gets -/
theorem made_link {H : Hp} {Z : Addr → Hp → Prop} {m : Addr} {a : Nums} {tabs : List (List Int)} {n : Nat} (hm : MachAt K H m tabs n) (O : NumOk n a) (k : ∀ x H', Same H H' → H x = none → LinkAt K H' x m a tabs n → Z x H') :
    ∀ x dx, H x = none → H dx = none → dx ≠ x → sp_Link K (.ref x :: ([.ref m, .int a.f, .int a.l, .int a.o, .int a.q] ++ [])) (upd (upd H dx (.own x)) x (.ins (cL K) dx [])) (fun r H2 => r = .non ∧ Z x H2) E0 := by
  intro x dx hx hdx ne
  have s0 : Same H (upd (upd H dx (.own x)) x (.ins (cL K) dx [])) := fun b o e => by rw [upd_ne (ne_of_none e hx), upd_ne (ne_of_none e hdx)]; exact e
  have s1 : Same H (upd (upd (upd H dx (.own x)) x (.ins (cL K) dx [])) x (.ins (cL K) dx (lf m a))) := Pg.Same.upd s0 hx
  exact ⟨x, dx, m, a, tabs, n, rfl, upd_same, hm.same s0, O, rfl, k x _ s1 hx ⟨O, hm.same s1, dx, upd_same⟩⟩
def sp_Link___eq__ (K : PySem.W.Frag) : Sp := fun vs H Q _ => ∃ (p m : Addr) (y : V) (a : Nums) (tabs : List (List Int)) (n : Nat), vs = [.ref p, y] ∧ LinkAt K H p m a tabs n ∧
  ((∃ (q m' : Addr) (a' : Nums) (tabs' : List (List Int)) (n' : Nat), y = .ref q ∧ LinkAt K H q m' a' tabs' n' ∧ Q (.bl (decide (tabs = tabs' ∧ a = a'))) H) ∨ (NotC K (cL K) H y ∧ Q (.bl false) H))
theorem MachAt.ins {H : Hp} {p : Addr} {tabs : List (List Int)} {n : Nat} (h : MachAt K H p tabs n) : ∃ dx fs, H p = some (.ins (cM K) dx fs) := by
  obtain ⟨g, dx, t, e, q⟩ := h
  exact ⟨dx, _, e⟩
theorem notFirst_self {C : Addr} : PySem.W.notFirst K C (.ref C) = true := by simp [PySem.W.notFirst]
theorem ok_Link___eq__ {f : Addr} {fd : FuncData} (F : FunD K "__eq__" "Link.__eq__" (defArgs s_Link___eq__) (defBody s_Link___eq__) (defScope s_Link___eq__) [] [] f fd) (M : Meth K (He.ga K "Link") "__eq__" f) (hne : PySem.W.findIn K (.ref (He.ga K "Link")) "__ne__" = some (some (.builtin "object.__ne__"))) (T : Tx K mg) (e_Machine : EqOf P w K mg base 1 (He.ga K "Machine") (sp_Machine___eq__ K)) : EqOf P w K mg base 3 (He.ga K "Link") (sp_Link___eq__ K) := by
  refine eqOf_of F M hne T.i_Link.hm sc_Link___eq__ (fun _ _ _ _ _ _ us hl => match us, hl with | [_, _], _ => rfl) (by walk_at "len") (fun cdv A outer s H vs Q E hr h => ?_)
  obtain ⟨p, m, y, a, tabs, n, rfl, ⟨O, hm, dx, hp⟩, alt⟩ := h
  refine ⟨_, (pss_cons (ps_if (PW.pt (pw_or (pt_not (pt_val (pe_callB (kIsi K) rfl T.b_isinstance (by decide +kernel) (pa_cons (pv 1) (pa_cons (pe_glob (v := .ref (He.ga K "Link")) rfl T.g_Link rfl) pa_nil))))) (pw_or (pt_cmpR (op_neO e_Machine (hr.mono (by decide))) (kFld K (pv 0) rfl) (kFld K (pv 1) rfl) (nomark _)) (pw_or1 (pt_cmpR (kNe K hr) (kFld K (pv 0) rfl) (kFld K (pv 1) rfl) (nomark _)))))) (pss_one (ps_ret pe_bl)) pss_nil)
      (pss_one (ps_ret (pe_and (pe_cmpR (kEq K hr) (kFld K (pv 0) rfl) (kFld K (pv 1) rfl) (nomark _)) (pe_and (pe_cmpR (kEq K hr) (kFld K (pv 0) rfl) (kFld K (pv 1) rfl) (nomark _)) (pe_one (pe_cmpR (kEq K hr) (kFld K (pv 0) rfl) (kFld K (pv 1) rfl) (nomark _)))))))), ?_⟩
  repeat walk_at "s"
  rcases alt with ⟨q, m', a', tabs', n', rfl, ⟨O', hm', dy, hq⟩, k⟩ | ⟨⟨ty, h1, h2⟩, k⟩
  · refine r_isiC (ty_ins hq T.i_Link) T.i_Link.me ?_
    repeat walk_at "s"
    refine ⟨p, cL K, dx, _, _, rfl, hp, T.i_Link.cl, T.n_Link_machine, lf_m _ _, ?_⟩
    repeat walk_at "s"
    refine ⟨q, cL K, dy, _, _, rfl, hq, T.i_Link.cl, T.n_Link_machine, lf_m _ _, ?_⟩
    obtain ⟨d1, fs1, i1⟩ := hm.ins
    obtain ⟨d2, fs2, i2⟩ := hm'.ins
    refine ⟨m, d1, fs1, .ref (cM K), rfl, i1, ty_ins i2 T.i_Machine, notFirst_self, ?_⟩
    refine ⟨m, .ref m', tabs, n, rfl, hm, .inl ⟨m', tabs', n', rfl, hm', ?_⟩⟩
    refine ⟨_, rfl, ?_⟩
    repeat walk_at "s"
    refine r_ndec (fun ne => ?_) (fun et => ?_)
    · repeat walk_at "s"
      rw [decide_eq_false (fun z => ne z.1)] at k
      exact k
    · repeat walk_at "s"
      refine ⟨p, cL K, dx, _, _, rfl, hp, T.i_Link.cl, T.n_Link_first, lf_f _ _, ?_⟩
      repeat walk_at "s"
      refine ⟨q, cL K, dy, _, _, rfl, hq, T.i_Link.cl, T.n_Link_first, lf_f _ _, ?_⟩
      repeat walk_at "s"
      refine r_ndec (fun ne => ?_) (fun ef => ?_)
      · repeat walk_at "s"
        rw [decide_eq_false (fun z => ne (by rw [z.2]))] at k
        exact k
      · repeat walk_at "s"
        refine ⟨p, cL K, dx, _, _, rfl, hp, T.i_Link.cl, T.n_Link_length, lf_l _ _, ?_⟩
        repeat walk_at "s"
        refine ⟨q, cL K, dy, _, _, rfl, hq, T.i_Link.cl, T.n_Link_length, lf_l _ _, ?_⟩
        repeat walk_at "s"
        refine r_dec (fun el => ?_) (fun ne => ?_)
        · repeat walk_at "s"
          refine ⟨p, cL K, dx, _, _, rfl, hp, T.i_Link.cl, T.n_Link_loss, lf_o _ _, ?_⟩
          repeat walk_at "s"
          refine ⟨q, cL K, dy, _, _, rfl, hq, T.i_Link.cl, T.n_Link_loss, lf_o _ _, ?_⟩
          repeat walk_at "s"
          refine r_dec (fun eo => ?_) (fun ne => ?_)
          · repeat walk_at "s"
            refine ⟨p, cL K, dx, _, _, rfl, hp, T.i_Link.cl, T.n_Link_modulus, lf_q _ _, ?_⟩
            repeat walk_at "s"
            refine ⟨q, cL K, dy, _, _, rfl, hq, T.i_Link.cl, T.n_Link_modulus, lf_q _ _, ?_⟩
            repeat walk_at "s"
            have e : decide (tabs = tabs' ∧ a = a') = decide (a.q = a'.q) := by
              obtain ⟨f1, l1, o1, q1⟩ := a
              obtain ⟨f2, l2, o2, q2⟩ := a'
              simp at ef el eo
              simp [et, ef, el, eo]
            rw [e] at k
            exact k
          · rw [decide_eq_false (fun z => ne (by rw [z.2]))] at k
            exact k
        · rw [decide_eq_false (fun z => ne (by rw [z.2]))] at k
          exact k
  · refine r_isiC h1 h2 ?_
    repeat walk_at "s"
    exact k
end
end P45

namespace P45
open PySem PySem.Spec PyProof.Rows L2 Pg
local macro_rules | `(tactic| walk_at "s") => `(tactic| first
  | ((with_reducible refine r_var (v := ?v) ?h ?q); case h => rfl)
  | (with_reducible refine r_c ?_)
  | (with_reducible refine r_op ?_)
  | (with_reducible refine r_un ?_)
  | (with_reducible refine r_I0 ?_)
  | (with_reducible refine r_U ?_)
  | (with_reducible refine r_addI ?_)
  | (with_reducible refine r_eqI ?_)
  | (with_reducible refine r_neI ?_)
  | (with_reducible refine r_eqT ?_)
  | (with_reducible refine r_neT ?_)
  | (with_reducible refine r_seq ?_)
  | (with_reducible refine r_asg ?_)
  | ((with_reducible refine r_name (σ' := ?s) ?h ?q); case h => (simp only [List.set_cons_zero, List.set_cons_succ, L2.start, List.map_cons, List.map_nil, List.length_cons, List.length_nil, List.cons_append, List.nil_append, List.replicate_succ, List.replicate_zero, Nat.reduceAdd, Nat.reduceSub]; rfl))
  | (with_reducible refine r_cons ?_)
  | (with_reducible refine r_nil ?_)
  | (with_reducible refine r_call ?_)
  | (with_reducible refine r_cb ?_)
  | (with_reducible refine r_ret ?_)
  | (with_reducible refine r_retN ?_)
  | (with_reducible refine r_ifs ?_)
  | (with_reducible refine r_if ?_)
  | (with_reducible refine r_tt ?_)
  | (with_reducible refine r_tb ?_)
  | (with_reducible refine r_tand ?_)
  | (with_reducible refine r_tor ?_)
  | (with_reducible refine r_tnot ?_)
  | (with_reducible refine r_and ?_)
  | (with_reducible refine r_or ?_)
  | (with_reducible refine r_not ?_)
  | (with_reducible refine r_chain ?_)
  | (with_reducible refine r_bl ?_)
  | (with_reducible refine r_int ?_)
  | (with_reducible refine r_iteT ?_)
  | (with_reducible refine r_iteF ?_)
  | (with_reducible refine r_inT ?_)
  | (with_reducible refine r_inF ?_)
  | (with_reducible refine r_intc ?_)
  | (with_reducible refine r_abs ?_)
  | (with_reducible refine r_lst ?_)
  | (with_reducible refine r_tup ?_)
  | (with_reducible refine r_sl ?_)
  | (with_reducible refine r_nopart ?_)
  | (with_reducible refine r_part ?_)
  | (with_reducible refine r_bm ?_)
  | (with_reducible refine r_bm0 ?_)
  | (with_reducible refine r_m1 ?_)
  | (with_reducible refine r_gsub ?_)
  | (with_reducible refine r_drop ?_)
  | (with_reducible refine r_next ?_)
  | (with_reducible refine r_par ?_)
  | (with_reducible refine r_par3 ?_)
  | (with_reducible refine r_par2 ?_)
  | (with_reducible refine r_fld ?_)
  | (with_reducible refine r_sfld ?_)
  | (with_reducible refine r_make ?_)
  | (with_reducible refine r_strI ?_)
  | (with_reducible refine r_min ?_)
  | (with_reducible refine r_max ?_))
local macro_rules | `(tactic| walk_at "n") => `(tactic| first
  | ((with_reducible refine r_var (v := ?v) ?h ?q); case h => rfl)
  | (with_reducible refine r_c ?_)
  | (with_reducible refine r_op ?_)
  | (with_reducible refine r_un ?_)
  | (with_reducible refine r_I0 ?_)
  | (with_reducible refine r_U ?_)
  | (with_reducible refine r_addI ?_)
  | (with_reducible refine r_eqI ?_)
  | (with_reducible refine r_neI ?_)
  | (with_reducible refine r_eqT ?_)
  | (with_reducible refine r_neT ?_)
  | (with_reducible refine r_asg ?_)
  | ((with_reducible refine r_name (σ' := ?s) ?h ?q); case h => (simp only [List.set_cons_zero, List.set_cons_succ, L2.start, List.map_cons, List.map_nil, List.length_cons, List.length_nil, List.cons_append, List.nil_append, List.replicate_succ, List.replicate_zero, Nat.reduceAdd, Nat.reduceSub]; rfl))
  | (with_reducible refine r_cons ?_)
  | (with_reducible refine r_nil ?_)
  | (with_reducible refine r_call ?_)
  | (with_reducible refine r_cb ?_)
  | (with_reducible refine r_ret ?_)
  | (with_reducible refine r_retN ?_)
  | (with_reducible refine r_ifs ?_)
  | (with_reducible refine r_if ?_)
  | (with_reducible refine r_tt ?_)
  | (with_reducible refine r_tb ?_)
  | (with_reducible refine r_tand ?_)
  | (with_reducible refine r_tor ?_)
  | (with_reducible refine r_tnot ?_)
  | (with_reducible refine r_and ?_)
  | (with_reducible refine r_or ?_)
  | (with_reducible refine r_not ?_)
  | (with_reducible refine r_chain ?_)
  | (with_reducible refine r_bl ?_)
  | (with_reducible refine r_int ?_)
  | (with_reducible refine r_iteT ?_)
  | (with_reducible refine r_iteF ?_)
  | (with_reducible refine r_inT ?_)
  | (with_reducible refine r_inF ?_)
  | (with_reducible refine r_intc ?_)
  | (with_reducible refine r_abs ?_)
  | (with_reducible refine r_lst ?_)
  | (with_reducible refine r_tup ?_)
  | (with_reducible refine r_sl ?_)
  | (with_reducible refine r_nopart ?_)
  | (with_reducible refine r_part ?_)
  | (with_reducible refine r_bm ?_)
  | (with_reducible refine r_bm0 ?_)
  | (with_reducible refine r_m1 ?_)
  | (with_reducible refine r_gsub ?_)
  | (with_reducible refine r_drop ?_)
  | (with_reducible refine r_next ?_)
  | (with_reducible refine r_par ?_)
  | (with_reducible refine r_par3 ?_)
  | (with_reducible refine r_par2 ?_)
  | (with_reducible refine r_fld ?_)
  | (with_reducible refine r_sfld ?_)
  | (with_reducible refine r_make ?_)
  | (with_reducible refine r_strI ?_)
  | (with_reducible refine r_min ?_)
  | (with_reducible refine r_max ?_))
local macro_rules | `(tactic| walk_at "len") => `(tactic| (intro _ _ _ _ h; first | (obtain ⟨e, _⟩ := h; subst e; rfl) | (obtain ⟨_, e, _⟩ := h; subst e; rfl) | (obtain ⟨_, _, e, _⟩ := h; subst e; rfl) | (obtain ⟨_, _, _, e, _⟩ := h; subst e; rfl) | (obtain ⟨_, _, _, _, e, _⟩ := h; subst e; rfl) | (obtain ⟨_, _, _, _, _, e, _⟩ := h; subst e; rfl) | (obtain ⟨_, _, _, _, _, _, e, _⟩ := h; subst e; rfl) | (obtain ⟨_, _, _, _, _, _, _, e, _⟩ := h; subst e; rfl) | (obtain ⟨_, _, _, _, _, _, _, _, e, _⟩ := h; subst e; rfl) | (obtain ⟨_, _, _, _, _, _, _, _, _, e, _⟩ := h; subst e; rfl) | (obtain ⟨_, _, _, _, _, _, _, _, _, _, e, _⟩ := h; subst e; rfl) | (obtain ⟨_, _, _, _, _, _, _, _, _, _, _, e, _⟩ := h; subst e; rfl)))

section
variable {P : Program} {w : World} {K : PySem.W.Frag} {mg : Str → Option Value} {base : Heap}
/-! ### texts -/
abbrev stL : List Nat := [115, 116, 97, 116, 101, 115, 32]
abbrev liL : List Nat := [108, 105, 110, 107, 32]
theorem l_st : Str.ofString "states " = SX.S stL := by decide +kernel
theorem l_li : Str.ofString "link " = SX.S liL := by decide +kernel
theorem l_dash : Str.ofString "-" = SX.S [45] := by decide +kernel
theorem l_sp : Str.ofString " " = SX.S [32] := by decide +kernel
theorem l_nl : Str.ofString "\n" = SX.S [10] := by decide +kernel
theorem l_nlli : Str.ofString "\nlink " = SX.S (10 :: liL) := by decide +kernel
def headL (n : Int) : List Nat := stL ++ nu n
def linesL (tabs : List (List Int)) (n : Int) : List (List Nat) := headL n :: tabs.map rowL
def machL (tabs : List (List Int)) (n : Int) : List Nat := TL.joinL [10] (linesL tabs n)
def linkL (ns : List Int) : List Nat := liL ++ rowL ns
def allL (tabs : List (List Int)) (n : Int) (ns : List Int) : List Nat := machL tabs n ++ (10 :: linkL ns)
theorem allL_eq (tabs : List (List Int)) (n : Int) (ns : List Int) : allL tabs n ns = TL.joinL [10] (linesL tabs n ++ [linkL ns]) := by
  rw [joinL_snoc (by simp [linesL])]; rfl
theorem Good.sm {tabs : List (List Int)} {n : Nat} (G : Good tabs n) {t : List Int} (h : t ∈ tabs) : Sm t := fun x hx => by
  have := G.bnd t h x hx
  have := G.n8
  omega
theorem Good.pos {tabs : List (List Int)} {n : Nat} (G : Good tabs n) {t : List Int} (h : t ∈ tabs) : t ≠ [] := fun e => by
  have := G.len t h
  have := G.n1
  rw [e] at *
  simp at *
  omega
theorem Good.row {tabs : List (List Int)} {n : Nat} (G : Good tabs n) {t : List Int} (h : t ∈ tabs) : (rowL t).length ≤ 60 := by
  have h1 := rowL_len (G.sm h)
  have h2 := G.len t h
  have h3 := G.n8
  omega
theorem headL_len {n : Int} (h : 0 ≤ n) (h1 : n < 1000000) : (headL n).length ≤ 20 := by
  have := nu_len h h1
  simp [headL]; omega
theorem lines_len {tabs : List (List Int)} {n : Nat} (G : Good tabs n) : ((linesL tabs n).map (·.length)).sum + (linesL tabs n).length * 1 ≤ 400 := by
  have h1 : ((linesL tabs n).map (·.length)).sum ≤ (linesL tabs n).length * 60 := by
    have := sum_le (k := 60) (ps := (linesL tabs n).map (·.length)) (fun p hp => by
      obtain ⟨q, hq, rfl⟩ := List.mem_map.mp hp
      rcases List.mem_cons.mp hq with rfl | hq
      · have := headL_len (n := (n : Int)) (by omega) (by have := G.n8; omega)
        omega
      · obtain ⟨t, ht, rfl⟩ := List.mem_map.mp hq
        exact G.row ht)
    simpa using this
  have h2 : (linesL tabs n).length ≤ 5 := by
    have := G.few
    simp [linesL]; omega
  omega
theorem machL_len {tabs : List (List Int)} {n : Nat} (G : Good tabs n) : (machL tabs n).length ≤ 400 := by
  have h1 := joinL_len [10] (linesL tabs n)
  have h2 := lines_len G
  simp only [List.length_cons, List.length_nil] at h1
  unfold machL
  omega
theorem lines_no10 {tabs : List (List Int)} {n : Int} : ∀ l ∈ linesL tabs n, 10 ∉ l := fun l h hm => by
  rcases List.mem_cons.mp h with rfl | h
  · rcases List.mem_append.mp hm with hm | hm
    · simp at hm
    · have := nu_dig hm; omega
  · obtain ⟨t, _, rfl⟩ := List.mem_map.mp h
    have := rowL_mem hm; omega
theorem link_no10 {ns : List Int} : 10 ∉ linkL ns := fun hm => by
  rcases List.mem_append.mp hm with hm | hm
  · simp at hm
  · have := rowL_mem hm; omega
def sp_is_text (K : PySem.W.Frag) : Sp := fun vs H Q _ => ∃ z, vs = [.str z] ∧ Q (.bl true) H
def sp_numbers_text (K : PySem.W.Frag) : Sp := fun vs H Q _ => ∃ (a : Addr) (ns : List Int), vs = [.ref a] ∧ Sq K H a (ns.map V.int) ∧ ns ≠ [] ∧ ns.length ≤ 100 ∧ Sm ns ∧ ∀ H', Same H H' → Q (.str (SX.S (rowL ns))) H'
def sp__law_row (K : PySem.W.Frag) : Sp := sp_numbers_text K
def sp_read_number (K : PySem.W.Frag) : Sp := fun vs H Q _ => ∃ (x m : Int), vs = [.str (SX.S (nu x)), .int m] ∧ 0 ≤ x ∧ x < m ∧ m ≤ 1000 ∧ Q (.int x) H
def sp_read_numbers (K : PySem.W.Frag) : Sp := fun vs H Q _ => ∃ (ns : List Int) (m : Int), vs = [.str (SX.S (rowL ns)), .int m] ∧ ns ≠ [] ∧ ns.length ≤ 100 ∧ (∀ x ∈ ns, 0 ≤ x ∧ x < m) ∧ m ≤ 1000 ∧
  ∀ l H', Same H H' → H l = none → H' l = some (.lst (ns.map V.int)) → Q (.ref l) H'
theorem ok_is_text {f : Addr} {fd : FuncData} (F : At K mg "is_text" s_is_text [] [] f fd) (T : Tx K mg)  : Cl P w K mg base 1 "is_text" (sp_is_text K) [] := by
  refine cl_of F sc_is_text (fun _ _ _ _ _ _ us hl => match us, hl with | [_], _ => rfl) (by walk_at "len") (fun cdv A outer s H vs Q E hr h => ?_)
  obtain ⟨z, rfl, k⟩ := h
  refine ⟨_, (pss_one (ps_ret (pe_callB (kIsi K) rfl T.b_isinstance (by decide +kernel) (pa_cons (pv 0) (pa_cons (pe_bltn (v := .ty "str") rfl T.b_str (by decide +kernel) rfl) pa_nil))))), ?_⟩
  repeat walk_at "s"
  refine r_isi (.base (.str z)) (by decide +kernel : kitB "str" "str" = some true) ?_
  exact k
theorem ok_numbers_text {f : Addr} {fd : FuncData} (F : At K mg "numbers_text" s_numbers_text [] [] f fd) (T : Tx K mg)  : Cl P w K mg base 1 "numbers_text" (sp_numbers_text K) [] := by
  refine cl_of F sc_numbers_text (fun _ _ _ _ _ _ us hl => match us, hl with | [_], _ => rfl) (by walk_at "len") (fun cdv A outer s H vs Q E hr h => ?_)
  obtain ⟨a, ns, rfl, hs, hne, hl, hb, k⟩ := h
  have hp : 0 < ns.length := List.length_pos_iff.mpr hne
  refine ⟨_, (pss_one (ps_ret (pe_ifExp (pt_cmpR op_gt (pe_callB (kLen K) rfl T.b_len (by decide +kernel) (pa_cons (pv 0) pa_nil)) pe_int (nomark _)) (kJoin K pe_str (pe_lc (own := [("number", 1)]) (g := gName 1) (tt := tYes) rfl sc_numbers_text.nd  (kSeq K (pv 0)) (blkOk_by (by kernel_rfl)) (fun _ _ _ _ _ => (pg_name (i := 1) sc_numbers_text.nd rfl (Or.inl rfl))) (fun _ _ _ _ _ => pts_nil) (fun _ _ _ _ _ => (pe_callTy call_strU rfl T.b_str (by decide +kernel) (pa_cons (pv 1) pa_nil))))) (C8.pe_gc rfl T.k_NONE)))), ?_⟩
  repeat walk_at "s"
  refine r_lenQ hs ?_
  repeat walk_at "s"
  rw [decide_eq_true (by rw [List.length_map]; omega)]
  repeat walk_at "s"
  refine r_lc (r_iseqV hs rfl fun J G hG w D hD => lc_mapF w hD hG ns (fun x => V.str (SX.S (nu x))) (by simp) (by simp; omega) walk_same ?_ ?_)
  · rintro i x H' H'' z hz s1 s2 ⟨rfl, hx⟩ N1 kN
    rw [List.getElem?_map, hz] at hx
    cases hx
    have hb := hb z (List.mem_of_getElem? hz)
    repeat walk_at "s"
    exact r_strN hb.1 hb.2 (kN _ (Same.refl _))
  · intro H' s hD'
    repeat walk_at "s"
    rw [l_sp]
    refine r_joinS (ys := ns.map nu) (.inl (SqL.of (by rw [hD', List.map_map, List.map_map]; rfl))) ?_ (k _ s)
    have := nus_sum hb
    simp only [List.length_map, List.length_cons, List.length_nil]
    omega
theorem ok__law_row {f : Addr} {fd : FuncData} (F : At K mg "_law_row" s__law_row [] [] f fd) (T : Tx K mg)  : Cl P w K mg base 1 "_law_row" (sp__law_row K) [] := by
  refine cl_of F sc__law_row (fun _ _ _ _ _ _ us hl => match us, hl with | [_], _ => rfl) (by walk_at "len") (fun cdv A outer s H vs Q E hr h => ?_)
  obtain ⟨a, ns, rfl, hs, hne, hl, hb, k⟩ := h
  refine ⟨_, (pss_one (ps_ret (kJoin K pe_str (pe_lc (own := [("number", 1)]) (g := gName 1) (tt := tYes) rfl sc__law_row.nd  (kSeq K (pv 0)) (blkOk_by (by kernel_rfl)) (fun _ _ _ _ _ => (pg_name (i := 1) sc__law_row.nd rfl (Or.inl rfl))) (fun _ _ _ _ _ => pts_nil) (fun _ _ _ _ _ => (pe_callTy call_strU rfl T.b_str (by decide +kernel) (pa_cons (pv 1) pa_nil))))))), ?_⟩
  repeat walk_at "s"
  refine r_lc (r_iseqV hs rfl fun J G hG w D hD => lc_mapF w hD hG ns (fun x => V.str (SX.S (nu x))) (by simp) (by simp; omega) walk_same ?_ ?_)
  · rintro i x H' H'' z hz s1 s2 ⟨rfl, hx⟩ N1 kN
    rw [List.getElem?_map, hz] at hx
    cases hx
    have hb := hb z (List.mem_of_getElem? hz)
    repeat walk_at "s"
    exact r_strN hb.1 hb.2 (kN _ (Same.refl _))
  · intro H' s hD'
    repeat walk_at "s"
    rw [l_sp]
    refine r_joinS (ys := ns.map nu) (.inl (SqL.of (by rw [hD', List.map_map, List.map_map]; rfl))) ?_ (k _ s)
    have := nus_sum hb
    simp only [List.length_map, List.length_cons, List.length_nil]
    omega
theorem ok_read_number {f : Addr} {fd : FuncData} (F : At K mg "read_number" s_read_number [] [] f fd) (T : Tx K mg)  : Cl P w K mg base 1 "read_number" (sp_read_number K) [] := by
  refine cl_of F sc_read_number (fun _ _ _ _ _ _ us hl => match us, hl with | [_, _], _ => rfl) (by walk_at "len") (fun cdv A outer s H vs Q E hr h => ?_)
  obtain ⟨x, m, rfl, h0, h1, hm, k⟩ := h
  refine ⟨_, (pss_cons (ps_for PassesOwn.never rfl (pi_range1 rfl T.b_range (pa_cons (pv 1) pa_nil)) (pg_name (i := 2) sc_read_number.nd rfl (Or.inl rfl))
      (pss_one (ps_if (pt_cmpR (kEq K hr) (pv 0) (pe_callTy call_strU rfl T.b_str (by decide +kernel) (pa_cons (pv 2) pa_nil)) (nomark _)) (pss_one (ps_ret (pv 2))) pss_nil)))
      (pss_one (ps_ret pe_non))), ?_⟩
  repeat walk_at "s"
  refine r_for (r_rng1 ?_)
  repeat walk_at "s"
  refine ⟨m, rfl, by omega, by omega, ?_⟩
  refine for_ask walk_range (fun i σ H' => H' = H ∧ (i : Int) ≤ x ∧ ∃ y, σ = [some (.str (SX.S (nu x))), some (.int m), y]) ⟨rfl, by omega, _, rfl⟩ (fun _ _ _ _ _ => trivial) ?_ ?_
  · rintro i y σ H3 H4 hi ⟨rfl, hx, z, rfl⟩ ⟨rfl, rfl⟩
    repeat walk_at "s"
    refine r_strN (by omega) (by omega) ?_
    repeat walk_at "s"
    rw [S_dec]
    refine r_dec (fun e => ?_) (fun e => ?_)
    · have := nu_inj h0 (by omega) e
      repeat walk_at "s"
      rw [← this]
      exact k
    · repeat walk_at "s"
      refine ⟨rfl, ?_, _, rfl⟩
      have : x ≠ 0 + (i : Int) := fun q => e (by rw [← q])
      omega
  · rintro σ H3 ⟨rfl, hx, _⟩
    exfalso
    omega
theorem ok_read_numbers {f : Addr} {fd : FuncData} (F : At K mg "read_numbers" s_read_numbers [] [] f fd) (T : Tx K mg) (c_read_number : Cl P w K mg base 1 "read_number" (sp_read_number K) []) : Cl P w K mg base 2 "read_numbers" (sp_read_numbers K) [] := by
  refine cl_of F sc_read_numbers (fun _ _ _ _ _ _ us hl => match us, hl with | [_, _], _ => rfl) (by walk_at "len") (fun cdv A outer s H vs Q E hr h => ?_)
  obtain ⟨ns, m, rfl, hne, hl, hb, hm, k⟩ := h
  have sm : Sm ns := fun x hx => by have := hb x hx; omega
  refine ⟨_, (pss_one (ps_ret (pe_ifExp (pt_cmpR (kEq K hr) (pv 0) (C8.pe_gc rfl T.k_NONE) (nomark _)) (pe_lst pa_nil) (pe_lc (own := [("word", 2)]) (g := gName 2) (tt := tYes) rfl sc_read_numbers.nd  (kSeq K (psplit (pv 0) pe_str)) (blkOk_by (by kernel_rfl)) (fun _ _ _ _ _ => (pg_name (i := 2) sc_read_numbers.nd rfl (Or.inl rfl))) (fun _ _ _ _ _ => pts_nil) (fun _ _ _ _ _ => (pcl c_read_number hr (by decide) rfl (pa_cons (pv 2) (pa_cons (pv 1) pa_nil)))))))), ?_⟩
  repeat walk_at "s"
  rw [l_dash, S_dec]
  rw [decide_eq_false (fun e => by
    obtain ⟨c, r, e2, h1, h2⟩ := rowL_head hne
    rw [e2] at e
    have := List.head_eq_of_cons_eq e
    omega)]
  repeat walk_at "s"
  refine r_lc (r_iseqM ?_)
  repeat walk_at "s"
  rw [l_sp]
  refine (r_splitR hne (by have := rowL_len sm; omega) fun p hp => ?_).2
  refine r_itl (SqL.of upd_same) fun J G hG w D hD => ?_
  refine lc_mapF w hD hG ns V.int (by simp) (by simp; omega) walk_same ?_ ?_
  · rintro i x H' H'' z hz s1 s2 ⟨rfl, hx⟩ N1 kN
    rw [List.getElem?_map, List.getElem?_map, List.getElem?_map, hz] at hx
    cases hx
    have hb := hb z (List.mem_of_getElem? hz)
    repeat walk_at "s"
    exact ⟨z, m, rfl, hb.1, hb.2, hm, kN _ (Same.refl _)⟩
  · intro H' s hD'
    exact k _ _ ((same_upd hp).trans s) (none_same (same_upd hp) hD) hD'
end
end P45

namespace P45
open PySem PySem.Spec PyProof.Rows L2 Pg
local macro_rules | `(tactic| walk_at "s") => `(tactic| first
  | ((with_reducible refine r_var (v := ?v) ?h ?q); case h => rfl)
  | (with_reducible refine r_c ?_)
  | (with_reducible refine r_op ?_)
  | (with_reducible refine r_un ?_)
  | (with_reducible refine r_I0 ?_)
  | (with_reducible refine r_U ?_)
  | (with_reducible refine r_addI ?_)
  | (with_reducible refine r_eqI ?_)
  | (with_reducible refine r_neI ?_)
  | (with_reducible refine r_eqT ?_)
  | (with_reducible refine r_neT ?_)
  | (with_reducible refine r_seq ?_)
  | (with_reducible refine r_asg ?_)
  | ((with_reducible refine r_name (σ' := ?s) ?h ?q); case h => (simp only [List.set_cons_zero, List.set_cons_succ, L2.start, List.map_cons, List.map_nil, List.length_cons, List.length_nil, List.cons_append, List.nil_append, List.replicate_succ, List.replicate_zero, Nat.reduceAdd, Nat.reduceSub]; rfl))
  | (with_reducible refine r_cons ?_)
  | (with_reducible refine r_nil ?_)
  | (with_reducible refine r_call ?_)
  | (with_reducible refine r_cb ?_)
  | (with_reducible refine r_ret ?_)
  | (with_reducible refine r_retN ?_)
  | (with_reducible refine r_ifs ?_)
  | (with_reducible refine r_if ?_)
  | (with_reducible refine r_tt ?_)
  | (with_reducible refine r_tb ?_)
  | (with_reducible refine r_tand ?_)
  | (with_reducible refine r_tor ?_)
  | (with_reducible refine r_tnot ?_)
  | (with_reducible refine r_and ?_)
  | (with_reducible refine r_or ?_)
  | (with_reducible refine r_not ?_)
  | (with_reducible refine r_chain ?_)
  | (with_reducible refine r_bl ?_)
  | (with_reducible refine r_int ?_)
  | (with_reducible refine r_iteT ?_)
  | (with_reducible refine r_iteF ?_)
  | (with_reducible refine r_inT ?_)
  | (with_reducible refine r_inF ?_)
  | (with_reducible refine r_intc ?_)
  | (with_reducible refine r_abs ?_)
  | (with_reducible refine r_lst ?_)
  | (with_reducible refine r_tup ?_)
  | (with_reducible refine r_sl ?_)
  | (with_reducible refine r_nopart ?_)
  | (with_reducible refine r_part ?_)
  | (with_reducible refine r_bm ?_)
  | (with_reducible refine r_bm0 ?_)
  | (with_reducible refine r_m1 ?_)
  | (with_reducible refine r_gsub ?_)
  | (with_reducible refine r_drop ?_)
  | (with_reducible refine r_next ?_)
  | (with_reducible refine r_par ?_)
  | (with_reducible refine r_par3 ?_)
  | (with_reducible refine r_par2 ?_)
  | (with_reducible refine r_fld ?_)
  | (with_reducible refine r_sfld ?_)
  | (with_reducible refine r_make ?_)
  | (with_reducible refine r_strI ?_)
  | (with_reducible refine r_min ?_)
  | (with_reducible refine r_max ?_))
local macro_rules | `(tactic| walk_at "n") => `(tactic| first
  | ((with_reducible refine r_var (v := ?v) ?h ?q); case h => rfl)
  | (with_reducible refine r_c ?_)
  | (with_reducible refine r_op ?_)
  | (with_reducible refine r_un ?_)
  | (with_reducible refine r_I0 ?_)
  | (with_reducible refine r_U ?_)
  | (with_reducible refine r_addI ?_)
  | (with_reducible refine r_eqI ?_)
  | (with_reducible refine r_neI ?_)
  | (with_reducible refine r_eqT ?_)
  | (with_reducible refine r_neT ?_)
  | (with_reducible refine r_asg ?_)
  | ((with_reducible refine r_name (σ' := ?s) ?h ?q); case h => (simp only [List.set_cons_zero, List.set_cons_succ, L2.start, List.map_cons, List.map_nil, List.length_cons, List.length_nil, List.cons_append, List.nil_append, List.replicate_succ, List.replicate_zero, Nat.reduceAdd, Nat.reduceSub]; rfl))
  | (with_reducible refine r_cons ?_)
  | (with_reducible refine r_nil ?_)
  | (with_reducible refine r_call ?_)
  | (with_reducible refine r_cb ?_)
  | (with_reducible refine r_ret ?_)
  | (with_reducible refine r_retN ?_)
  | (with_reducible refine r_ifs ?_)
  | (with_reducible refine r_if ?_)
  | (with_reducible refine r_tt ?_)
  | (with_reducible refine r_tb ?_)
  | (with_reducible refine r_tand ?_)
  | (with_reducible refine r_tor ?_)
  | (with_reducible refine r_tnot ?_)
  | (with_reducible refine r_and ?_)
  | (with_reducible refine r_or ?_)
  | (with_reducible refine r_not ?_)
  | (with_reducible refine r_chain ?_)
  | (with_reducible refine r_bl ?_)
  | (with_reducible refine r_int ?_)
  | (with_reducible refine r_iteT ?_)
  | (with_reducible refine r_iteF ?_)
  | (with_reducible refine r_inT ?_)
  | (with_reducible refine r_inF ?_)
  | (with_reducible refine r_intc ?_)
  | (with_reducible refine r_abs ?_)
  | (with_reducible refine r_lst ?_)
  | (with_reducible refine r_tup ?_)
  | (with_reducible refine r_sl ?_)
  | (with_reducible refine r_nopart ?_)
  | (with_reducible refine r_part ?_)
  | (with_reducible refine r_bm ?_)
  | (with_reducible refine r_bm0 ?_)
  | (with_reducible refine r_m1 ?_)
  | (with_reducible refine r_gsub ?_)
  | (with_reducible refine r_drop ?_)
  | (with_reducible refine r_next ?_)
  | (with_reducible refine r_par ?_)
  | (with_reducible refine r_par3 ?_)
  | (with_reducible refine r_par2 ?_)
  | (with_reducible refine r_fld ?_)
  | (with_reducible refine r_sfld ?_)
  | (with_reducible refine r_make ?_)
  | (with_reducible refine r_strI ?_)
  | (with_reducible refine r_min ?_)
  | (with_reducible refine r_max ?_))
local macro_rules | `(tactic| walk_at "len") => `(tactic| (intro _ _ _ _ h; first | (obtain ⟨e, _⟩ := h; subst e; rfl) | (obtain ⟨_, e, _⟩ := h; subst e; rfl) | (obtain ⟨_, _, e, _⟩ := h; subst e; rfl) | (obtain ⟨_, _, _, e, _⟩ := h; subst e; rfl) | (obtain ⟨_, _, _, _, e, _⟩ := h; subst e; rfl) | (obtain ⟨_, _, _, _, _, e, _⟩ := h; subst e; rfl) | (obtain ⟨_, _, _, _, _, _, e, _⟩ := h; subst e; rfl) | (obtain ⟨_, _, _, _, _, _, _, e, _⟩ := h; subst e; rfl) | (obtain ⟨_, _, _, _, _, _, _, _, e, _⟩ := h; subst e; rfl) | (obtain ⟨_, _, _, _, _, _, _, _, _, e, _⟩ := h; subst e; rfl) | (obtain ⟨_, _, _, _, _, _, _, _, _, _, e, _⟩ := h; subst e; rfl) | (obtain ⟨_, _, _, _, _, _, _, _, _, _, _, e, _⟩ := h; subst e; rfl)))

section
variable {P : Program} {w : World} {K : PySem.W.Frag} {mg : Str → Option Value} {base : Heap}
theorem Nums.sm {n : Nat} {a : Nums} (O : NumOk n a) (h : n ≤ 8) : Sm [a.f, a.l, a.o, a.q] := by
  obtain ⟨h1, h2, h3, h4, h5, h6, h7, h8⟩ := O
  intro x hx
  simp at hx
  omega
theorem linesV (tabs : List (List Int)) (n : Int) : (((linesL tabs n).map SX.S).map V.str) = V.str (SX.S (headL n)) :: tabs.map (fun t => V.str (SX.S (rowL t))) := by
  simp [linesL]
def sp_machine_text (K : PySem.W.Frag) : Sp := fun vs H Q _ => ∃ (m : Addr) (tabs : List (List Int)) (n : Nat), vs = [.ref m] ∧ MachAt K H m tabs n ∧ ∀ H', Same H H' → Q (.str (SX.S (machL tabs n))) H'
def sp__law_text (K : PySem.W.Frag) : Sp := fun vs H Q _ => ∃ (v : V) (tabs : List (List Int)) (n : Nat), vs = [v] ∧ TabV K H v tabs ∧ Good tabs n ∧ ∀ H', Same H H' → Q (.str (SX.S (machL tabs n))) H'
def sp_link_text (K : PySem.W.Frag) : Sp := fun vs H Q _ => ∃ (p m : Addr) (a : Nums) (tabs : List (List Int)) (n : Nat), vs = [.ref p] ∧ LinkAt K H p m a tabs n ∧ ∀ H', Same H H' → Q (.str (SX.S (allL tabs n [a.f, a.l, a.o, a.q]))) H'
theorem ok_machine_text {f : Addr} {fd : FuncData} (F : At K mg "machine_text" s_machine_text [] [] f fd) (T : Tx K mg) (c_numbers_text : Cl P w K mg base 1 "numbers_text" (sp_numbers_text K) []) : Cl P w K mg base 2 "machine_text" (sp_machine_text K) [] := by
  refine cl_of F sc_machine_text (fun _ _ _ _ _ _ us hl => match us, hl with | [_], _ => rfl) (by walk_at "len") (fun cdv A outer s H vs Q E hr h => ?_)
  obtain ⟨m, tabs, n, rfl, ⟨G, dx, t, hm, ht⟩, k⟩ := h
  have g1 := G.ne
  have g4 := G.few
  have g8 := G.n8
  obtain ⟨a, rs, rfl, hs, hrw⟩ := id ht
  have hlen : rs.length = tabs.length := paired_len hrw
  refine ⟨_, (pss_one (ps_ret (kJoin K pe_str (pe_op (kAdd K) (pe_lst (pa_cons (pe_op (kAdd K) (C8.pe_gc rfl T.k_STATES) (pe_callTy call_strU rfl T.b_str (by decide +kernel) (pa_cons (kFld K (pv 0) rfl) pa_nil))) pa_nil)) (pe_lc (own := [("table", 1)]) (g := gName 1) (tt := tYes) rfl sc_machine_text.nd  (kSeq K (kFld K (pv 0) rfl)) (blkOk_by (by kernel_rfl)) (fun _ _ _ _ _ => (pg_name (i := 1) sc_machine_text.nd rfl (Or.inl rfl))) (fun _ _ _ _ _ => pts_nil) (fun _ _ _ _ _ => (pcl c_numbers_text hr (by decide) rfl (pa_cons (pv 1) pa_nil)))))))), ?_⟩
  repeat walk_at "s"
  refine ⟨m, cM K, dx, _, _, rfl, hm, T.i_Machine.cl, T.n_Machine_states, mf_n _ _ _, ?_⟩
  repeat walk_at "s"
  refine r_strN (by omega) (by omega) ?_
  rw [l_st]
  refine r_addT (by have := nu_len (i := (n : Int)) (by omega) (by omega); simp; omega) ?_
  repeat walk_at "s"
  refine ⟨szl (by simp), fun p hp => ?_⟩
  have s1 : Same H (upd H p (.lst [V.str (SX.S (stL ++ nu n))])) := same_upd hp
  refine r_lc (r_iseq (a := a) (xs := rs) (H := _) (.inr (SqT.ext hs s1)) (fun N q => r_fld (r_var rfl ⟨m, cM K, dx, _, _, rfl, s1 _ _ hm, T.i_Machine.cl, T.n_Machine_tables, mf_t _ _ _, q⟩)) fun J G' hG wk D hD => ?_)
  refine lc_mapF wk hD hG tabs (fun t => V.str (SX.S (rowL t))) hlen (by omega) walk_same ?_ ?_
  · rintro i x H' H'' z hz s2 s3 ⟨rfl, hx⟩ N1 kN
    obtain ⟨z', e, b, rfl, hb⟩ := paired_at hrw hx
    rw [hz] at e
    cases e
    have hz := List.mem_of_getElem? hz
    repeat walk_at "s"
    refine ⟨b, z, rfl, .inr (SqT.ext hb (s1.trans s2)), G.pos hz, by have := G.len z hz; omega, G.sm hz, fun H4 s4 => kN _ s4⟩
  · intro H' s2 hD'
    refine r_addL (s2 _ _ upd_same) hD' (szl (by simp; omega)) fun q hq => ?_
    repeat walk_at "s"
    rw [l_nl]
    refine r_joinS (a := [10]) (ys := linesL tabs n) (.inl (SqL.of (by rw [upd_same, linesV]; rfl))) ?_ (k _ ((s1.trans s2).trans (same_upd hq)))
    have := lines_len G
    simp only [List.length_cons, List.length_nil]
    omega
theorem ok__law_text {f : Addr} {fd : FuncData} (F : At K mg "_law_text" s__law_text [] [] f fd) (T : Tx K mg) (c__law_row : Cl P w K mg base 1 "_law_row" (sp__law_row K) []) : Cl P w K mg base 2 "_law_text" (sp__law_text K) [] := by
  refine cl_of F sc__law_text (fun _ _ _ _ _ _ us hl => match us, hl with | [_], _ => rfl) (by walk_at "len") (fun cdv A outer s H vs Q E hr h => ?_)
  obtain ⟨v, tabs, n, rfl, ⟨a, rs, rfl, hs, hrw⟩, G, k⟩ := h
  have g1 := G.ne
  have g4 := G.few
  have g8 := G.n8
  have hlen : rs.length = tabs.length := paired_len hrw
  obtain ⟨t0, ht0⟩ : ∃ t0, tabs[0]? = some t0 := ⟨_, List.getElem?_eq_getElem (by omega)⟩
  obtain ⟨r0, hr0⟩ : ∃ r0, rs[0]? = some r0 := ⟨_, List.getElem?_eq_getElem (by omega)⟩
  obtain ⟨t0', e0, b0, rfl, hb0⟩ := paired_at hrw hr0
  rw [ht0] at e0
  cases e0
  have hl0 : t0.length = n := G.len t0 (List.mem_of_getElem? ht0)
  refine ⟨_, (pss_one (ps_ret (kJoin K pe_str (pe_op (kAdd K) (pe_lst (pa_cons (pe_op (kAdd K) pe_str (pe_callTy call_strU rfl T.b_str (by decide +kernel) (pa_cons (pe_callB (kLen K) rfl T.b_len (by decide +kernel) (pa_cons (pe_ix (kIx K) (pv 0) pe_int (fun _ _ => rfl)) pa_nil)) pa_nil))) pa_nil)) (pe_lc (own := [("table", 1)]) (g := gName 1) (tt := tYes) rfl sc__law_text.nd  (kSeq K (pv 0)) (blkOk_by (by kernel_rfl)) (fun _ _ _ _ _ => (pg_name (i := 1) sc__law_text.nd rfl (Or.inl rfl))) (fun _ _ _ _ _ => pts_nil) (fun _ _ _ _ _ => (pcl c__law_row hr (by decide) rfl (pa_cons (pv 1) pa_nil)))))))), ?_⟩
  repeat walk_at "s"
  refine r_ixQ hs (atI_nat hr0) ?_
  repeat walk_at "s"
  refine r_lenQ hb0 ?_
  rw [List.length_map, hl0]
  repeat walk_at "s"
  refine r_strN (by omega) (by omega) ?_
  rw [l_st]
  refine r_addT (by have := nu_len (i := (n : Int)) (by omega) (by omega); simp; omega) ?_
  repeat walk_at "s"
  refine ⟨szl (by simp), fun p hp => ?_⟩
  have s1 : Same H (upd H p (.lst [V.str (SX.S (stL ++ nu n))])) := same_upd hp
  refine r_lc (r_iseqV (hs.same s1) rfl fun J G' hG wk D hD => ?_)
  refine lc_mapF wk hD hG tabs (fun t => V.str (SX.S (rowL t))) hlen (by omega) walk_same ?_ ?_
  · rintro i x H' H'' z hz s2 s3 ⟨rfl, hx⟩ N1 kN
    obtain ⟨z', e, b, rfl, hb⟩ := paired_at hrw hx
    rw [hz] at e
    cases e
    have hz := List.mem_of_getElem? hz
    repeat walk_at "s"
    refine ⟨b, z, rfl, hb.same (s1.trans s2), G.pos hz, by have := G.len z hz; omega, G.sm hz, fun H4 s4 => kN _ s4⟩
  · intro H' s2 hD'
    refine r_addL (s2 _ _ upd_same) hD' (szl (by simp; omega)) fun q hq => ?_
    repeat walk_at "s"
    rw [l_nl]
    refine r_joinS (a := [10]) (ys := linesL tabs n) (.inl (SqL.of (by rw [upd_same, linesV]; rfl))) ?_ (k _ ((s1.trans s2).trans (same_upd hq)))
    have := lines_len G
    simp only [List.length_cons, List.length_nil]
    omega
theorem ok_link_text {f : Addr} {fd : FuncData} (F : At K mg "link_text" s_link_text [] [] f fd) (T : Tx K mg) (c_machine_text : Cl P w K mg base 2 "machine_text" (sp_machine_text K) []) (c_numbers_text : Cl P w K mg base 1 "numbers_text" (sp_numbers_text K) []) : Cl P w K mg base 3 "link_text" (sp_link_text K) [] := by
  refine cl_of F sc_link_text (fun _ _ _ _ _ _ us hl => match us, hl with | [_], _ => rfl) (by walk_at "len") (fun cdv A outer s H vs Q E hr h => ?_)
  obtain ⟨p, m, a, tabs, n, rfl, ⟨O, hm, dx, hp⟩, k⟩ := h
  have g8 := hm.good.n8
  have sm := Nums.sm O g8
  refine ⟨_, (pss_cons (ps_set (i := 1) sc_link_text.nd rfl (Or.inl rfl) (pe_tup (pa_cons (kFld K (pv 0) rfl) (pa_cons (kFld K (pv 0) rfl) (pa_cons (kFld K (pv 0) rfl) (pa_cons (kFld K (pv 0) rfl) pa_nil))))))
      (pss_one (ps_ret (pe_op (kAdd K) (pe_op (kAdd K) (pe_op (kAdd K) (pcl c_machine_text hr (by decide) rfl (pa_cons (kFld K (pv 0) rfl) pa_nil)) pe_str) (C8.pe_gc rfl T.k_LINK)) (pcl c_numbers_text hr (by decide) rfl (pa_cons (pv 1) pa_nil)))))), ?_⟩
  repeat walk_at "s"
  refine ⟨p, cL K, dx, _, _, rfl, hp, T.i_Link.cl, T.n_Link_first, lf_f _ _, ?_⟩
  repeat walk_at "s"
  refine ⟨p, cL K, dx, _, _, rfl, hp, T.i_Link.cl, T.n_Link_length, lf_l _ _, ?_⟩
  repeat walk_at "s"
  refine ⟨p, cL K, dx, _, _, rfl, hp, T.i_Link.cl, T.n_Link_loss, lf_o _ _, ?_⟩
  repeat walk_at "s"
  refine ⟨p, cL K, dx, _, _, rfl, hp, T.i_Link.cl, T.n_Link_modulus, lf_q _ _, ?_⟩
  repeat walk_at "s"
  refine ⟨szl (by simp), fun t ht => ?_⟩
  have s1 := same_upd (o := .tup [.int a.f, .int a.l, .int a.o, .int a.q]) ht
  repeat walk_at "s"
  refine ⟨p, cL K, dx, _, _, rfl, s1 _ _ hp, T.i_Link.cl, T.n_Link_machine, lf_m _ _, ?_⟩
  repeat walk_at "s"
  refine ⟨m, tabs, n, rfl, hm.same s1, fun H2 s2 => ?_⟩
  have z1 := machL_len hm.good
  have z2 := rowL_len sm
  simp at z2
  repeat walk_at "s"
  rw [l_nl]
  refine r_addT (by simp; omega) ?_
  repeat walk_at "s"
  rw [l_li]
  refine r_addT (by simp; omega) ?_
  repeat walk_at "s"
  refine ⟨t, [a.f, a.l, a.o, a.q], rfl, .inr (SqT.ext (SqT.of upd_same) s2), by simp, by simp, sm, fun H3 s3 => ?_⟩
  refine r_addT (by simp; omega) ?_
  have e : machL tabs n ++ [10] ++ liL ++ rowL [a.f, a.l, a.o, a.q] = allL tabs n [a.f, a.l, a.o, a.q] := by simp [allL, linkL]
  rw [e]
  exact k _ ((s1.trans s2).trans s3)
end
end P45

namespace P45
open PySem PySem.Spec PyProof.Rows L2 Pg
local macro_rules | `(tactic| walk_at "s") => `(tactic| first
  | ((with_reducible refine r_var (v := ?v) ?h ?q); case h => rfl)
  | (with_reducible refine r_c ?_)
  | (with_reducible refine r_op ?_)
  | (with_reducible refine r_un ?_)
  | (with_reducible refine r_I0 ?_)
  | (with_reducible refine r_U ?_)
  | (with_reducible refine r_addI ?_)
  | (with_reducible refine r_eqI ?_)
  | (with_reducible refine r_neI ?_)
  | (with_reducible refine r_eqT ?_)
  | (with_reducible refine r_neT ?_)
  | (with_reducible refine r_seq ?_)
  | (with_reducible refine r_asg ?_)
  | ((with_reducible refine r_name (σ' := ?s) ?h ?q); case h => (simp only [List.set_cons_zero, List.set_cons_succ, L2.start, List.map_cons, List.map_nil, List.length_cons, List.length_nil, List.cons_append, List.nil_append, List.replicate_succ, List.replicate_zero, Nat.reduceAdd, Nat.reduceSub]; rfl))
  | (with_reducible refine r_cons ?_)
  | (with_reducible refine r_nil ?_)
  | (with_reducible refine r_call ?_)
  | (with_reducible refine r_cb ?_)
  | (with_reducible refine r_ret ?_)
  | (with_reducible refine r_retN ?_)
  | (with_reducible refine r_ifs ?_)
  | (with_reducible refine r_if ?_)
  | (with_reducible refine r_tt ?_)
  | (with_reducible refine r_tb ?_)
  | (with_reducible refine r_tand ?_)
  | (with_reducible refine r_tor ?_)
  | (with_reducible refine r_tnot ?_)
  | (with_reducible refine r_and ?_)
  | (with_reducible refine r_or ?_)
  | (with_reducible refine r_not ?_)
  | (with_reducible refine r_chain ?_)
  | (with_reducible refine r_bl ?_)
  | (with_reducible refine r_int ?_)
  | (with_reducible refine r_iteT ?_)
  | (with_reducible refine r_iteF ?_)
  | (with_reducible refine r_inT ?_)
  | (with_reducible refine r_inF ?_)
  | (with_reducible refine r_intc ?_)
  | (with_reducible refine r_abs ?_)
  | (with_reducible refine r_lst ?_)
  | (with_reducible refine r_tup ?_)
  | (with_reducible refine r_sl ?_)
  | (with_reducible refine r_nopart ?_)
  | (with_reducible refine r_part ?_)
  | (with_reducible refine r_bm ?_)
  | (with_reducible refine r_bm0 ?_)
  | (with_reducible refine r_m1 ?_)
  | (with_reducible refine r_gsub ?_)
  | (with_reducible refine r_drop ?_)
  | (with_reducible refine r_next ?_)
  | (with_reducible refine r_par ?_)
  | (with_reducible refine r_par3 ?_)
  | (with_reducible refine r_par2 ?_)
  | (with_reducible refine r_fld ?_)
  | (with_reducible refine r_sfld ?_)
  | (with_reducible refine r_make ?_)
  | (with_reducible refine r_strI ?_)
  | (with_reducible refine r_min ?_)
  | (with_reducible refine r_max ?_))
local macro_rules | `(tactic| walk_at "n") => `(tactic| first
  | ((with_reducible refine r_var (v := ?v) ?h ?q); case h => rfl)
  | (with_reducible refine r_c ?_)
  | (with_reducible refine r_op ?_)
  | (with_reducible refine r_un ?_)
  | (with_reducible refine r_I0 ?_)
  | (with_reducible refine r_U ?_)
  | (with_reducible refine r_addI ?_)
  | (with_reducible refine r_eqI ?_)
  | (with_reducible refine r_neI ?_)
  | (with_reducible refine r_eqT ?_)
  | (with_reducible refine r_neT ?_)
  | (with_reducible refine r_asg ?_)
  | ((with_reducible refine r_name (σ' := ?s) ?h ?q); case h => (simp only [List.set_cons_zero, List.set_cons_succ, L2.start, List.map_cons, List.map_nil, List.length_cons, List.length_nil, List.cons_append, List.nil_append, List.replicate_succ, List.replicate_zero, Nat.reduceAdd, Nat.reduceSub]; rfl))
  | (with_reducible refine r_cons ?_)
  | (with_reducible refine r_nil ?_)
  | (with_reducible refine r_call ?_)
  | (with_reducible refine r_cb ?_)
  | (with_reducible refine r_ret ?_)
  | (with_reducible refine r_retN ?_)
  | (with_reducible refine r_ifs ?_)
  | (with_reducible refine r_if ?_)
  | (with_reducible refine r_tt ?_)
  | (with_reducible refine r_tb ?_)
  | (with_reducible refine r_tand ?_)
  | (with_reducible refine r_tor ?_)
  | (with_reducible refine r_tnot ?_)
  | (with_reducible refine r_and ?_)
  | (with_reducible refine r_or ?_)
  | (with_reducible refine r_not ?_)
  | (with_reducible refine r_chain ?_)
  | (with_reducible refine r_bl ?_)
  | (with_reducible refine r_int ?_)
  | (with_reducible refine r_iteT ?_)
  | (with_reducible refine r_iteF ?_)
  | (with_reducible refine r_inT ?_)
  | (with_reducible refine r_inF ?_)
  | (with_reducible refine r_intc ?_)
  | (with_reducible refine r_abs ?_)
  | (with_reducible refine r_lst ?_)
  | (with_reducible refine r_tup ?_)
  | (with_reducible refine r_sl ?_)
  | (with_reducible refine r_nopart ?_)
  | (with_reducible refine r_part ?_)
  | (with_reducible refine r_bm ?_)
  | (with_reducible refine r_bm0 ?_)
  | (with_reducible refine r_m1 ?_)
  | (with_reducible refine r_gsub ?_)
  | (with_reducible refine r_drop ?_)
  | (with_reducible refine r_next ?_)
  | (with_reducible refine r_par ?_)
  | (with_reducible refine r_par3 ?_)
  | (with_reducible refine r_par2 ?_)
  | (with_reducible refine r_fld ?_)
  | (with_reducible refine r_sfld ?_)
  | (with_reducible refine r_make ?_)
  | (with_reducible refine r_strI ?_)
  | (with_reducible refine r_min ?_)
  | (with_reducible refine r_max ?_))
local macro_rules | `(tactic| walk_at "len") => `(tactic| (intro _ _ _ _ h; first | (obtain ⟨e, _⟩ := h; subst e; rfl) | (obtain ⟨_, e, _⟩ := h; subst e; rfl) | (obtain ⟨_, _, e, _⟩ := h; subst e; rfl) | (obtain ⟨_, _, _, e, _⟩ := h; subst e; rfl) | (obtain ⟨_, _, _, _, e, _⟩ := h; subst e; rfl) | (obtain ⟨_, _, _, _, _, e, _⟩ := h; subst e; rfl) | (obtain ⟨_, _, _, _, _, _, e, _⟩ := h; subst e; rfl) | (obtain ⟨_, _, _, _, _, _, _, e, _⟩ := h; subst e; rfl) | (obtain ⟨_, _, _, _, _, _, _, _, e, _⟩ := h; subst e; rfl) | (obtain ⟨_, _, _, _, _, _, _, _, _, e, _⟩ := h; subst e; rfl) | (obtain ⟨_, _, _, _, _, _, _, _, _, _, e, _⟩ := h; subst e; rfl) | (obtain ⟨_, _, _, _, _, _, _, _, _, _, _, e, _⟩ := h; subst e; rfl)))

section
variable {P : Program} {w : World} {K : PySem.W.Frag} {mg : Str → Option Value} {base : Heap}
def sp_read_lines (K : PySem.W.Frag) : Sp := fun vs H Q _ => ∃ (a : Addr) (tabs : List (List Int)) (n : Nat), vs = [.ref a] ∧ SqL K H a (((linesL tabs n).map SX.S).map V.str) ∧ Good tabs n ∧ ∀ x H', Same H H' → H x = none → MachAt K H' x tabs n → Q (.ref x) H'
def sp_read_machine (K : PySem.W.Frag) : Sp := fun vs H Q _ => ∃ (tabs : List (List Int)) (n : Nat), vs = [.str (SX.S (machL tabs n))] ∧ Good tabs n ∧ ∀ x H', Same H H' → H x = none → MachAt K H' x tabs n → Q (.ref x) H'
theorem ok_read_lines {f : Addr} {fd : FuncData} (F : At K mg "read_lines" s_read_lines [] [] f fd) (T : Tx K mg) (c_read_number : Cl P w K mg base 1 "read_number" (sp_read_number K) []) (c_read_numbers : Cl P w K mg base 2 "read_numbers" (sp_read_numbers K) []) (c_Machine : Cm P w K mg base 6 "Machine" (He.ga K "Machine") (sp_Machine K) []) : Cl P w K mg base 8 "read_lines" (sp_read_lines K) [] := by
  refine cl_of F sc_read_lines (fun _ _ _ _ _ _ us hl => match us, hl with | [_], _ => rfl) (by walk_at "len") (fun cdv A outer s H vs Q E hr h => ?_)
  obtain ⟨a, tabs, n, rfl, hs, G, k⟩ := h
  have g1 := G.ne
  have g4 := G.few
  have g8 := G.n8
  have gn := G.n1
  have hd0 : atI (((linesL tabs n).map SX.S).map V.str) 0 = some (.str (SX.S (headL n))) := by rw [linesV]; exact atI_nat (j := 0) rfl
  have hl0 := headL_len (n := (n : Int)) (by omega) (by omega)
  have e7 : (headL n).take 7 = stL := by simp [headL]
  have e7d : (headL n).drop 7 = nu n := by simp [headL]
  have hlen : (((linesL tabs n).map SX.S).map V.str).length = tabs.length + 1 := by simp [linesL]
  refine ⟨_, (pss_cons (ps_set (i := 1) sc_read_lines.nd rfl (Or.inl rfl) (pcl c_read_number hr (by decide) rfl (pa_cons (pe_slice (kSl K) (pe_ix (kIx K) (pv 0) pe_int (fun _ _ => rfl)) (po_some (pe_callB (kLen K) rfl T.b_len (by decide +kernel) (pa_cons (C8.pe_gc rfl T.k_STATES) pa_nil))) po_none) (pa_cons (pe_op (kAdd K) (C8.pe_gc rfl T.k_MOST_STATES) pe_int) pa_nil))))
      (pss_cons (ps_if (PW.pt (pw_or (pt_cmpR (kNe K hr) (pe_slice (kSl K) (pe_ix (kIx K) (pv 0) pe_int (fun _ _ => rfl)) po_none (po_some (pe_callB (kLen K) rfl T.b_len (by decide +kernel) (pa_cons (C8.pe_gc rfl T.k_STATES) pa_nil)))) (C8.pe_gc rfl T.k_STATES) (nomark _)) (pw_or (pt_cmpR op_isN (pv 1) pe_non (nomark _)) (pw_or1 (pt_cmpR (kEq K hr) (pv 1) pe_int (nomark _)))))) (pss_one ps_never) pss_nil)
      (pss_cons (ps_set (i := 2) sc_read_lines.nd rfl (Or.inl rfl) (pe_lst pa_nil))
      (pss_cons (ps_for PassesOwn.never rfl (pi_enumU rfl T.b_enumerate (pa_cons (pe_slice (kSl K) (pv 0) (po_some pe_int) (po_some (pe_op (kAdd K) (C8.pe_gc rfl T.k_MOST_DEEDS) pe_int))) pa_nil)) (pg_tup rfl (pgs_cons (pg_name (i := 3) sc_read_lines.nd rfl (Or.inl rfl)) (pgs_cons (pg_name (i := 4) sc_read_lines.nd rfl (Or.inl rfl)) pgs_nil)))
      (pss_cons (ps_set (i := 5) sc_read_lines.nd rfl (Or.inl rfl) (pcl c_read_numbers hr (by decide) rfl (pa_cons (pv 4) (pa_cons (pv 1) pa_nil))))
      (pss_cons (ps_if (PW.pt (pw_or (pt_cmpR (kNe K hr) (pe_callB (kLen K) rfl T.b_len (by decide +kernel) (pa_cons (pv 5) pa_nil)) (pv 1) (nomark _)) (pw_or1 (pt_cmpR (kIn K) pe_non (pv 5) (by rfl))))) (pss_one ps_never) pss_nil)
      (pss_one (ps_expr (pe_bm PySem.F.plainAttrs_list PySem.F.slot_list_append PySem.F.type_list_append mt_append (pv 2) (pa_cons (pv 5) pa_nil)))))))
      (pss_cons (ps_if (PW.pt (pw_or (pt_cmpR (kEq K hr) (pe_callB (kLen K) rfl T.b_len (by decide +kernel) (pa_cons (pv 0) pa_nil)) pe_int (nomark _)) (pw_or1 (pt_cmpR op_gt (pe_callB (kLen K) rfl T.b_len (by decide +kernel) (pa_cons (pv 0) pa_nil)) (pe_op (kAdd K) (C8.pe_gc rfl T.k_MOST_DEEDS) pe_int) (nomark _))))) (pss_one ps_never) pss_nil)
      (pss_one (ps_ret (pmk c_Machine hr (by decide) rfl (pa_cons (pv 2) pa_nil))))))))), ?_⟩
  repeat walk_at "s"
  refine r_ixL hs hd0 ?_
  repeat walk_at "s"
  rw [l_st]
  refine r_lenS (by rw [SX.S_len]; exact szl (by decide)) ?_
  rw [SX.S_len]
  repeat walk_at "s"
  refine r_slFrom (by omega) (by decide) ?_
  rw [show ((stL.length : Nat) : Int).toNat = 7 from rfl, e7d]
  repeat walk_at "s"
  refine ⟨n, 8 + 1, rfl, by omega, by omega, by decide, ?_⟩
  repeat walk_at "s"
  refine r_ixL hs hd0 ?_
  repeat walk_at "s"
  refine r_lenS (by rw [SX.S_len]; exact szl (by decide)) ?_
  rw [SX.S_len]
  repeat walk_at "s"
  refine r_slTo (by omega) (by decide) ?_
  rw [show ((stL.length : Nat) : Int).toNat = 7 from rfl, e7]
  repeat walk_at "s"
  rw [decide_eq_true rfl]
  repeat walk_at "s"
  refine ⟨rfl, ?_⟩
  rw [decide_eq_false (by simp)]
  repeat walk_at "s"
  rw [decide_eq_false (by omega)]
  repeat walk_at "s"
  refine ⟨szl (by simp), fun tb htb => ?_⟩
  have s1 : Same H (upd H tb (.lst [])) := same_upd htb
  repeat walk_at "s"
  refine r_for (r_ienumM ?_)
  repeat walk_at "s"
  refine r_slL (SqL.ext hs s1) fun p hp => ?_
  have hptb : p ≠ tb := fun e => by rw [e, upd_same] at hp; cases hp
  have ec : cutV (((linesL tabs n).map SX.S).map V.str) (some 1) (some (4 + 1)) = tabs.map (fun t => V.str (SX.S (rowL t))) := by
    have := cutV_mid (((linesL tabs n).map SX.S).map V.str) 1 5
    rw [show ((1 : Nat) : Int) = 1 from rfl, show ((5 : Nat) : Int) = 4 + 1 from rfl] at this
    rw [this, linesV]
    simp only [List.drop_succ_cons, List.drop_zero]
    exact List.take_of_length_le (by simp; omega)
  rw [ec]
  have s2 : Same (upd H tb (.lst [])) (upd (upd H tb (.lst [])) p (.lst (tabs.map (fun t => V.str (SX.S (rowL t)))))) := same_upd hp
  have s02 := s1.trans s2
  repeat walk_at "s"
  refine r_iteX (SqL.of upd_same) fun wk => ?_
  have hn : (tabs.map (fun t => V.str (SX.S (rowL t)))).length = tabs.length := by simp
  refine for_ask wk (fun i σ H' => ∃ x y z, ∃ ys : List V, σ = [some (.ref a), some (.int n), some (.ref tb), x, y, z] ∧ Same H H' ∧ H' p = some (.lst (tabs.map (fun t => V.str (SX.S (rowL t))))) ∧ H' tb = some (.lst ys) ∧
    ys.length = i ∧ ∀ (j : Nat) (y : V), ys[j]? = some y → ∃ (b : Addr) (t : List Int), y = .ref b ∧ b ≠ tb ∧ tabs[j]? = some t ∧ H' b = some (.lst (t.map V.int)))
    ⟨_, _, _, [], rfl, s02, upd_same, s2 _ _ upd_same, rfl, fun j y e => by simp at e⟩ ?_ ?_ ?_
  · rintro i σ H3 hi ⟨x, y, z, ys, rfl, s3, h1, h2, h3, h4⟩
    exact SqL.of h1
  · rintro i x σ H3 H4 hi ⟨x1, y1, z1, ys, rfl, s3, h1, h2, h3, h4⟩ ⟨T, x, y, rfl, hT, rfl, hx, hy⟩
    cases hx
    have hi : i < tabs.length := by rw [← hn]; exact hi
    obtain ⟨t, ht⟩ : ∃ t, tabs[i]? = some t := ⟨_, List.getElem?_eq_getElem hi⟩
    replace hy : (tabs.map (fun t => V.str (SX.S (rowL t))))[i]? = some y := hy
    rw [List.getElem?_map, ht] at hy
    cases hy
    have htm := List.mem_of_getElem? ht
    have hlt := G.len t htm
    refine r_gpair upd_same ?_
    repeat walk_at "s"
    refine ⟨t, n, rfl, G.pos htm, by omega, G.bnd t htm, by omega, fun l H5 s5 hl hl5 => ?_⟩
    have s4 : Same H3 H5 := (same_upd hT).trans s5
    have nl : l ≠ tb := fun e => by
      have := none_same (same_upd hT) hl
      rw [e, h2] at this
      cases this
    repeat walk_at "s"
    refine r_lenL (SqL.of hl5) ?_
    repeat walk_at "s"
    rw [List.length_map, hlt, decide_eq_true rfl]
    repeat walk_at "s"
    refine r_in (.inl (SqL.of hl5)) rfl (flat_ints _) ?_
    rw [none_in_ints]
    repeat walk_at "s"
    refine r_tyL (s4 _ _ h2) ?_
    repeat walk_at "s"
    refine r_appI (s4 _ _ h2) (by omega) ?_
    have np : p ≠ tb := hptb
    refine ⟨_, _, _, _, rfl, Pg.Same.upd (s3.trans s4) htb, by rw [upd_ne np]; exact s4 _ _ h1, upd_same, by simp [h3], fun j y e => ?_⟩
    by_cases hj : j < ys.length
    · rw [List.getElem?_append_left hj] at e
      obtain ⟨b, t', e1, e2, e3, e4⟩ := h4 j y e
      exact ⟨b, t', e1, e2, e3, by rw [upd_ne e2]; exact s4 _ _ e4⟩
    · have hj' : j = i := by
        have := (List.getElem?_eq_some_iff.mp e).1
        simp at this
        omega
      rw [hj', ← h3, List.getElem?_append_right (Nat.le_refl _), Nat.sub_self] at e
      cases e
      exact ⟨l, t, rfl, nl, by rw [hj']; exact ht, by rw [upd_ne nl]; exact hl5⟩
  · rintro σ H3 ⟨x, y, z, ys, rfl, s3, h1, h2, h3, h4⟩
    repeat walk_at "s"
    refine r_lenL (SqL.ext hs s3) ?_
    repeat walk_at "s"
    rw [hlen, decide_eq_false (by omega)]
    repeat walk_at "s"
    refine r_lenL (SqL.ext hs s3) ?_
    repeat walk_at "s"
    rw [hlen, decide_eq_false (by omega)]
    repeat walk_at "s"
    refine made_machine (tabs := tabs) (n := n) ⟨tb, ys, rfl, .inl (SqL.of h2), paired_of (by rw [h3, hn]) fun j y e => ?_⟩ G fun x H4 s4 hx hm => k x H4 (s3.trans s4) (none_same s3 hx) hm
    obtain ⟨b, t, e1, e2, e3, e4⟩ := h4 j y e
    exact ⟨t, e3, b, e1, .inl (SqL.of e4)⟩
theorem ok_read_machine {f : Addr} {fd : FuncData} (F : At K mg "read_machine" s_read_machine [] [] f fd) (T : Tx K mg) (c_is_text : Cl P w K mg base 1 "is_text" (sp_is_text K) []) (c_read_lines : Cl P w K mg base 8 "read_lines" (sp_read_lines K) []) : Cl P w K mg base 9 "read_machine" (sp_read_machine K) [] := by
  refine cl_of F sc_read_machine (fun _ _ _ _ _ _ us hl => match us, hl with | [_], _ => rfl) (by walk_at "len") (fun cdv A outer s H vs Q E hr h => ?_)
  obtain ⟨tabs, n, rfl, G, k⟩ := h
  refine ⟨_, (pss_cons (ps_if (pt_not (pt_val (pcl c_is_text hr (by decide) rfl (pa_cons (pv 0) pa_nil)))) (pss_one ps_never) pss_nil)
      (pss_one (ps_ret (pcl c_read_lines hr (by decide) rfl (pa_cons (psplit (pv 0) pe_str) pa_nil))))), ?_⟩
  repeat walk_at "s"
  refine ⟨_, rfl, ?_⟩
  repeat walk_at "s"
  rw [l_nl]
  refine (r_splitL (ls := linesL tabs n) (by simp [linesL]) lines_no10 (by have := machL_len G; exact Nat.le_trans this (by decide)) fun p hp => ?_).2
  repeat walk_at "s"
  exact ⟨p, tabs, n, rfl, SqL.of upd_same, G, fun x H' s hx hm => k x H' ((same_upd hp).trans s) (none_same (same_upd hp) hx) hm⟩
end
end P45

namespace P45
open PySem PySem.Spec PyProof.Rows L2 Pg
local macro_rules | `(tactic| walk_at "s") => `(tactic| first
  | ((with_reducible refine r_var (v := ?v) ?h ?q); case h => rfl)
  | (with_reducible refine r_c ?_)
  | (with_reducible refine r_op ?_)
  | (with_reducible refine r_un ?_)
  | (with_reducible refine r_I0 ?_)
  | (with_reducible refine r_U ?_)
  | (with_reducible refine r_addI ?_)
  | (with_reducible refine r_eqI ?_)
  | (with_reducible refine r_neI ?_)
  | (with_reducible refine r_eqT ?_)
  | (with_reducible refine r_neT ?_)
  | (with_reducible refine r_seq ?_)
  | (with_reducible refine r_asg ?_)
  | ((with_reducible refine r_name (σ' := ?s) ?h ?q); case h => (simp only [List.set_cons_zero, List.set_cons_succ, L2.start, List.map_cons, List.map_nil, List.length_cons, List.length_nil, List.cons_append, List.nil_append, List.replicate_succ, List.replicate_zero, Nat.reduceAdd, Nat.reduceSub]; rfl))
  | (with_reducible refine r_cons ?_)
  | (with_reducible refine r_nil ?_)
  | (with_reducible refine r_call ?_)
  | (with_reducible refine r_cb ?_)
  | (with_reducible refine r_ret ?_)
  | (with_reducible refine r_retN ?_)
  | (with_reducible refine r_ifs ?_)
  | (with_reducible refine r_if ?_)
  | (with_reducible refine r_tt ?_)
  | (with_reducible refine r_tb ?_)
  | (with_reducible refine r_tand ?_)
  | (with_reducible refine r_tor ?_)
  | (with_reducible refine r_tnot ?_)
  | (with_reducible refine r_and ?_)
  | (with_reducible refine r_or ?_)
  | (with_reducible refine r_not ?_)
  | (with_reducible refine r_chain ?_)
  | (with_reducible refine r_bl ?_)
  | (with_reducible refine r_int ?_)
  | (with_reducible refine r_iteT ?_)
  | (with_reducible refine r_iteF ?_)
  | (with_reducible refine r_inT ?_)
  | (with_reducible refine r_inF ?_)
  | (with_reducible refine r_intc ?_)
  | (with_reducible refine r_abs ?_)
  | (with_reducible refine r_lst ?_)
  | (with_reducible refine r_tup ?_)
  | (with_reducible refine r_sl ?_)
  | (with_reducible refine r_nopart ?_)
  | (with_reducible refine r_part ?_)
  | (with_reducible refine r_bm ?_)
  | (with_reducible refine r_bm0 ?_)
  | (with_reducible refine r_m1 ?_)
  | (with_reducible refine r_gsub ?_)
  | (with_reducible refine r_drop ?_)
  | (with_reducible refine r_next ?_)
  | (with_reducible refine r_par ?_)
  | (with_reducible refine r_par3 ?_)
  | (with_reducible refine r_par2 ?_)
  | (with_reducible refine r_fld ?_)
  | (with_reducible refine r_sfld ?_)
  | (with_reducible refine r_make ?_)
  | (with_reducible refine r_strI ?_)
  | (with_reducible refine r_min ?_)
  | (with_reducible refine r_max ?_))
local macro_rules | `(tactic| walk_at "n") => `(tactic| first
  | ((with_reducible refine r_var (v := ?v) ?h ?q); case h => rfl)
  | (with_reducible refine r_c ?_)
  | (with_reducible refine r_op ?_)
  | (with_reducible refine r_un ?_)
  | (with_reducible refine r_I0 ?_)
  | (with_reducible refine r_U ?_)
  | (with_reducible refine r_addI ?_)
  | (with_reducible refine r_eqI ?_)
  | (with_reducible refine r_neI ?_)
  | (with_reducible refine r_eqT ?_)
  | (with_reducible refine r_neT ?_)
  | (with_reducible refine r_asg ?_)
  | ((with_reducible refine r_name (σ' := ?s) ?h ?q); case h => (simp only [List.set_cons_zero, List.set_cons_succ, L2.start, List.map_cons, List.map_nil, List.length_cons, List.length_nil, List.cons_append, List.nil_append, List.replicate_succ, List.replicate_zero, Nat.reduceAdd, Nat.reduceSub]; rfl))
  | (with_reducible refine r_cons ?_)
  | (with_reducible refine r_nil ?_)
  | (with_reducible refine r_call ?_)
  | (with_reducible refine r_cb ?_)
  | (with_reducible refine r_ret ?_)
  | (with_reducible refine r_retN ?_)
  | (with_reducible refine r_ifs ?_)
  | (with_reducible refine r_if ?_)
  | (with_reducible refine r_tt ?_)
  | (with_reducible refine r_tb ?_)
  | (with_reducible refine r_tand ?_)
  | (with_reducible refine r_tor ?_)
  | (with_reducible refine r_tnot ?_)
  | (with_reducible refine r_and ?_)
  | (with_reducible refine r_or ?_)
  | (with_reducible refine r_not ?_)
  | (with_reducible refine r_chain ?_)
  | (with_reducible refine r_bl ?_)
  | (with_reducible refine r_int ?_)
  | (with_reducible refine r_iteT ?_)
  | (with_reducible refine r_iteF ?_)
  | (with_reducible refine r_inT ?_)
  | (with_reducible refine r_inF ?_)
  | (with_reducible refine r_intc ?_)
  | (with_reducible refine r_abs ?_)
  | (with_reducible refine r_lst ?_)
  | (with_reducible refine r_tup ?_)
  | (with_reducible refine r_sl ?_)
  | (with_reducible refine r_nopart ?_)
  | (with_reducible refine r_part ?_)
  | (with_reducible refine r_bm ?_)
  | (with_reducible refine r_bm0 ?_)
  | (with_reducible refine r_m1 ?_)
  | (with_reducible refine r_gsub ?_)
  | (with_reducible refine r_drop ?_)
  | (with_reducible refine r_next ?_)
  | (with_reducible refine r_par ?_)
  | (with_reducible refine r_par3 ?_)
  | (with_reducible refine r_par2 ?_)
  | (with_reducible refine r_fld ?_)
  | (with_reducible refine r_sfld ?_)
  | (with_reducible refine r_make ?_)
  | (with_reducible refine r_strI ?_)
  | (with_reducible refine r_min ?_)
  | (with_reducible refine r_max ?_))
local macro_rules | `(tactic| walk_at "len") => `(tactic| (intro _ _ _ _ h; first | (obtain ⟨e, _⟩ := h; subst e; rfl) | (obtain ⟨_, e, _⟩ := h; subst e; rfl) | (obtain ⟨_, _, e, _⟩ := h; subst e; rfl) | (obtain ⟨_, _, _, e, _⟩ := h; subst e; rfl) | (obtain ⟨_, _, _, _, e, _⟩ := h; subst e; rfl) | (obtain ⟨_, _, _, _, _, e, _⟩ := h; subst e; rfl) | (obtain ⟨_, _, _, _, _, _, e, _⟩ := h; subst e; rfl) | (obtain ⟨_, _, _, _, _, _, _, e, _⟩ := h; subst e; rfl) | (obtain ⟨_, _, _, _, _, _, _, _, e, _⟩ := h; subst e; rfl) | (obtain ⟨_, _, _, _, _, _, _, _, _, e, _⟩ := h; subst e; rfl) | (obtain ⟨_, _, _, _, _, _, _, _, _, _, e, _⟩ := h; subst e; rfl) | (obtain ⟨_, _, _, _, _, _, _, _, _, _, _, e, _⟩ := h; subst e; rfl)))

section
variable {P : Program} {w : World} {K : PySem.W.Frag} {mg : Str → Option Value} {base : Heap}
def numsOf (a : Nums) : List Int := [a.f, a.l, a.o, a.q]
def sp_read_link (K : PySem.W.Frag) : Sp := fun vs H Q _ => ∃ (a : Nums) (tabs : List (List Int)) (n : Nat), vs = [.str (SX.S (allL tabs n (numsOf a)))] ∧ Good tabs n ∧ NumOk n a ∧
  ∀ x m H', Same H H' → H x = none → H m = none → LinkAt K H' x m a tabs n → Q (.ref x) H'
theorem notlink {tabs : List (List Int)} {n : Nat} (G : Good tabs n) {l : List Nat} (h : l ∈ linesL tabs n) : l.take 5 ≠ liL := by
  rcases List.mem_cons.mp h with rfl | h
  · simp [headL]
  · obtain ⟨t, ht, rfl⟩ := List.mem_map.mp h
    obtain ⟨c, r, e, h1, h2⟩ := rowL_head (G.pos ht)
    rw [e]
    intro z
    have := List.head_eq_of_cons_eq z
    omega
def allLs (tabs : List (List Int)) (n : Int) (ns : List Int) : List (List Nat) := linesL tabs n ++ [linkL ns]
def allV (tabs : List (List Int)) (n : Int) (ns : List Int) : List V := ((allLs tabs n ns).map SX.S).map V.str
theorem allV_len {tabs : List (List Int)} {n : Int} {ns : List Int} : (allV tabs n ns).length = tabs.length + 2 := by simp [allV, allLs, linesL]
theorem allV_at {tabs : List (List Int)} {n : Nat} (G : Good tabs n) {ns : List Int} {i : Nat} {y : V} (h : (allV tabs n ns)[i]? = some y) : (∃ l, y = .str (SX.S l) ∧ l.take 5 ≠ liL ∧ l.length ≤ 1000 ∧ i < tabs.length + 1) ∨ (y = .str (SX.S (linkL ns)) ∧ i = tabs.length + 1) := by
  unfold allV allLs at h
  rw [List.getElem?_map, List.getElem?_map] at h
  by_cases hi : i < (linesL tabs n).length
  · rw [List.getElem?_append_left hi, List.getElem?_eq_getElem hi] at h
    cases h
    have hm : (linesL tabs n)[i] ∈ linesL tabs n := List.getElem_mem _
    refine .inl ⟨_, rfl, notlink G hm, ?_, by simpa [linesL] using hi⟩
    rcases List.mem_cons.mp hm with e | e
    · rw [e]
      have := headL_len (n := (n : Int)) (by omega) (by have := G.n8; omega)
      omega
    · obtain ⟨t, ht, e⟩ := List.mem_map.mp e
      rw [← e]
      have := G.row ht
      omega
  · have hl : (linesL tabs n).length = tabs.length + 1 := by simp [linesL]
    rw [List.getElem?_append_right (by omega)] at h
    by_cases hz : i - (linesL tabs n).length = 0
    · rw [hz] at h
      cases h
      exact .inr ⟨rfl, by omega⟩
    · rw [List.getElem?_eq_none (by simp; omega)] at h
      cases h
theorem ok_read_link {f : Addr} {fd : FuncData} (F : At K mg "read_link" s_read_link [] [] f fd) (T : Tx K mg) (c_is_text : Cl P w K mg base 1 "is_text" (sp_is_text K) []) (c_read_lines : Cl P w K mg base 8 "read_lines" (sp_read_lines K) []) (c_read_numbers : Cl P w K mg base 2 "read_numbers" (sp_read_numbers K) []) (c_Link : Cm P w K mg base 5 "Link" (He.ga K "Link") (sp_Link K) []) : Cl P w K mg base 9 "read_link" (sp_read_link K) [] := by
  refine cl_of F sc_read_link (fun _ _ _ _ _ _ us hl => match us, hl with | [_], _ => rfl) (by walk_at "len") (fun cdv A outer s H vs Q E hr h => ?_)
  obtain ⟨a, tabs, n, rfl, G, O, k⟩ := h
  have g1 := G.ne
  have g4 := G.few
  have g8 := G.n8
  have gn := G.n1
  have sm : Sm (numsOf a) := Nums.sm O g8
  have zr : (rowL (numsOf a)).length ≤ 28 := rowL_len sm
  have zl : (linkL (numsOf a)).length ≤ 33 := by simp [linkL]; omega
  have za : (TL.joinL [10] (allLs tabs n (numsOf a))).length ≤ 1000 := by
    have := machL_len G
    have e := allL_eq tabs n (numsOf a)
    unfold allLs
    rw [← e]
    simp only [allL, List.length_append, List.length_cons]
    omega
  refine ⟨_, (pss_cons (ps_if (pt_not (pt_val (pcl c_is_text hr (by decide) rfl (pa_cons (pv 0) pa_nil)))) (pss_one ps_never) pss_nil)
      (pss_cons (ps_set (i := 1) sc_read_link.nd rfl (Or.inl rfl) (psplit (pv 0) pe_str))
      (pss_cons (ps_setLc (i := 2) (own := [("at", 7), ("line", 8)]) (g := gTup K 2 (gCons (gName 7) (gCons (gName 8) gNil)))  rfl sc_read_link.nd rfl rfl (sw_true rfl rfl rfl (by decide +kernel)) (pi_enumU rfl T.b_enumerate (pa_cons (pv 1) pa_nil)) (blkOk_by (by kernel_rfl)) (fun _ _ _ _ _ => (pg_tup rfl (pgs_cons (pg_name (i := 7) sc_read_link.nd rfl (Or.inl rfl)) (pgs_cons (pg_name (i := 8) sc_read_link.nd rfl (Or.inl rfl)) pgs_nil)))) (fun _ _ _ _ _ => pts_one (pt_cmpR (kEq K hr) (pe_slice (kSl K) (pv 8) po_none (po_some (pe_callB (kLen K) rfl T.b_len (by decide +kernel) (pa_cons (C8.pe_gc rfl T.k_LINK) pa_nil)))) (C8.pe_gc rfl T.k_LINK) (nomark _))) (fun _ _ _ _ _ => (pv 7)))
      (pss_cons (ps_set (i := 3) sc_read_link.nd rfl (Or.inl rfl) (pe_ifExp (pt_cmpR op_gt (pe_callB (kLen K) rfl T.b_len (by decide +kernel) (pa_cons (pv 2) pa_nil)) pe_int (nomark _)) (pe_ix (kIx K) (pv 2) pe_int (fun _ _ => rfl)) (pe_callB (kLen K) rfl T.b_len (by decide +kernel) (pa_cons (pv 1) pa_nil))))
      (pss_cons (ps_set (i := 4) sc_read_link.nd rfl (Or.inl rfl) (pcl c_read_lines hr (by decide) rfl (pa_cons (pe_ifExp (pt_cmpR op_gt (pv 3) pe_int (nomark _)) (pe_slice (kSl K) (pv 1) po_none (po_some (pv 3))) (pe_lst (pa_cons pe_str pa_nil))) pa_nil)))
      (pss_cons (ps_set (i := 5) sc_read_link.nd rfl (Or.inl rfl) (pe_ifExp (pt_cmpR op_lt (pv 3) (pe_callB (kLen K) rfl T.b_len (by decide +kernel) (pa_cons (pv 1) pa_nil)) (nomark _)) (pcl c_read_numbers hr (by decide) rfl (pa_cons (pe_slice (kSl K) (pe_ix (kIx K) (pv 1) (pv 3) (fun _ _ => rfl)) (po_some (pe_callB (kLen K) rfl T.b_len (by decide +kernel) (pa_cons (C8.pe_gc rfl T.k_LINK) pa_nil))) po_none) (pa_cons (pe_op (kAdd K) (C8.pe_gc rfl T.k_MOST_LENGTH) pe_int) pa_nil))) (pe_lst pa_nil)))
      (pss_cons (ps_if (PW.pt (pw_or (pt_cmpR (kNe K hr) (pe_callB (kLen K) rfl T.b_len (by decide +kernel) (pa_cons (pv 5) pa_nil)) pe_int (nomark _)) (pw_or (pt_cmpR (kIn K) pe_non (pv 5) (by rfl)) (pw_or1 (pt_cmpR op_ge (pe_ix (kIx K) (pv 5) pe_int (fun _ _ => rfl)) (kFld K (pv 4) rfl) (nomark _)))))) (pss_one ps_never) pss_nil)
      (pss_cons (ps_try_thru0 (pss_one (ps_set (i := 6) sc_read_link.nd rfl (Or.inl rfl) (pmk c_Link hr (by decide) rfl (pa_cons (pv 4) (pa_cons (pe_ix (kIx K) (pv 5) pe_int (fun _ _ => rfl)) (pa_cons (pe_ix (kIx K) (pv 5) pe_int (fun _ _ => rfl)) (pa_cons (pe_ix (kIx K) (pv 5) pe_int (fun _ _ => rfl)) (pa_cons (pe_ix (kIx K) (pv 5) pe_int (fun _ _ => rfl)) pa_nil)))))))))
      (pss_cons (ps_if (pt_cmpR op_gt (pe_callB (kLen K) rfl T.b_len (by decide +kernel) (pa_cons (pv 1) pa_nil)) (pe_op (kAdd K) (pv 3) pe_int) (nomark _)) (pss_one ps_never) pss_nil)
      (pss_one (ps_ret (pv 6)))))))))))), ?_⟩
  repeat walk_at "s"
  refine ⟨_, rfl, ?_⟩
  repeat walk_at "s"
  rw [l_nl, allL_eq]
  refine (r_splitL (ls := allLs tabs n (numsOf a)) (by simp [allLs]) (fun l h => by
    rcases List.mem_append.mp h with h | h
    · exact lines_no10 l h
    · rw [List.mem_singleton.mp h]; exact link_no10) (by omega) fun ls hls => ?_).2
  have s1 : Same H (upd H ls (.lst (allV tabs n (numsOf a)))) := same_upd hls
  repeat walk_at "s"
  refine r_lc (r_ienumV (a := ls) (xs := allV tabs n (numsOf a)) (.inl (SqL.of upd_same)) rfl fun J Gd hG wk D hD => ?_)
  refine lc_acc wk hD (by rw [allV_len]; omega) hG (fun i H x H' y => by obtain ⟨T, x, y, _, hT, rfl, _⟩ := y; exact same_upd hT) (fun i ys _ => ys = if i ≤ tabs.length + 1 then [] else [V.int ((tabs.length + 1 : Nat) : Int)]) (fun _ _ _ _ _ h => h) (fun _ _ _ _ _ _ h => h) (fun _ _ => by simp) ?_ ?_
  · rintro i x ys H3 H4 hi s3 hD3 rfl ⟨T, x, y, rfl, hT, rfl, hx, hy⟩ N1 N0 k1 k0
    cases hx
    have sT := same_upd (o := .tup [.int (i : Nat), y]) hT
    refine r_gpair upd_same ?_
    refine ⟨rfl, ?_⟩
    have h5 : ((5 : Nat) : Int).toNat = 5 := rfl
    rcases allV_at G hy with ⟨l, rfl, hl, hz, hi2⟩ | ⟨rfl, hi2⟩
    · repeat walk_at "s"
      rw [l_li]
      refine r_lenS (by rw [SX.S_len]; exact szl (by decide)) ?_
      rw [SX.S_len]
      repeat walk_at "s"
      refine r_slTo (by omega) (by decide) ?_
      rw [show ((liL.length : Nat) : Int).toNat = 5 from rfl]
      repeat walk_at "s"
      rw [S_dec, decide_eq_false hl]
      repeat walk_at "s"
      refine k0 _ sT ?_
      rw [if_pos (by omega), if_pos (by omega)]
    · repeat walk_at "s"
      rw [l_li]
      refine r_lenS (by rw [SX.S_len]; exact szl (by decide)) ?_
      rw [SX.S_len]
      repeat walk_at "s"
      refine r_slTo (by omega) (by decide) ?_
      rw [show ((liL.length : Nat) : Int).toNat = 5 from rfl]
      repeat walk_at "s"
      rw [S_dec, decide_eq_true (by simp [linkL])]
      repeat walk_at "s"
      refine k1 _ _ sT ?_
      rw [if_pos (by omega), if_neg (by omega), hi2]
      rfl
  · rintro H3 ys s3 hD3 rfl
    rw [allV_len, if_neg (by omega)] at hD3
    have s03 := s1.trans s3
    have hls3 : H3 ls = some (.lst (allV tabs n (numsOf a))) := s3 _ _ upd_same
    have hlast : atI (allV tabs n (numsOf a)) ((tabs.length + 1 : Nat) : Int) = some (.str (SX.S (linkL (numsOf a)))) := by
      have e : (((linesL tabs n).map SX.S).map V.str).length = tabs.length + 1 := by simp [linesL]
      have e2 : allV tabs n (numsOf a) = ((linesL tabs n).map SX.S).map V.str ++ [V.str (SX.S (linkL (numsOf a)))] := by simp [allV, allLs]
      rw [e2, ← e]
      exact atI_app
    have hcut : cutV (allV tabs n (numsOf a)) none (some ((tabs.length + 1 : Nat) : Int)) = ((linesL tabs n).map SX.S).map V.str := by
      rw [cutV_to]
      simp [allV, allLs, linesL]
    repeat walk_at "s"
    refine r_lenL (SqL.of hD3) ?_
    repeat walk_at "s"
    rw [decide_eq_true (by simp)]
    repeat walk_at "s"
    refine r_ixL (SqL.of hD3) (v := V.int ((tabs.length + 1 : Nat) : Int)) rfl ?_
    repeat walk_at "s"
    rw [decide_eq_true (by omega)]
    repeat walk_at "s"
    refine r_slL (SqL.of hls3) fun c hc => ?_
    rw [hcut]
    have s4 : Same H3 (upd H3 c (.lst (((linesL tabs n).map SX.S).map V.str))) := same_upd hc
    repeat walk_at "s"
    refine ⟨c, tabs, n, rfl, SqL.of upd_same, G, fun m H5 s5 hm hmm => ?_⟩
    have s05 := (s03.trans s4).trans s5
    have s35 := s4.trans s5
    have hls5 : H5 ls = some (.lst (allV tabs n (numsOf a))) := s35 _ _ hls3
    repeat walk_at "s"
    refine r_lenL (SqL.of hls5) ?_
    repeat walk_at "s"
    rw [allV_len, decide_eq_true (by omega)]
    repeat walk_at "s"
    refine r_ixL (SqL.of hls5) hlast ?_
    repeat walk_at "s"
    rw [l_li]
    refine r_lenS (by rw [SX.S_len]; exact szl (by decide)) ?_
    rw [SX.S_len]
    repeat walk_at "s"
    refine r_slFrom (by omega) (by decide) ?_
    rw [show ((liL.length : Nat) : Int).toNat = 5 from rfl, show (linkL (numsOf a)).drop 5 = rowL (numsOf a) by simp [linkL]]
    repeat walk_at "s"
    refine ⟨numsOf a, 12 + 1, rfl, by simp [numsOf], by simp [numsOf], ?_, by decide, fun l H6 s6 hl hl6 => ?_⟩
    · obtain ⟨h1, h2, h3, h4, h5, h6, h7, h8⟩ := O
      intro x hx
      simp [numsOf] at hx
      omega
    have hm6 := hmm.same s6
    obtain ⟨_, dx, t, hmi, _⟩ := hm6
    have e0 : atI ((numsOf a).map V.int) 0 = some (.int a.f) := atI_nat (j := 0) rfl
    have e1 : atI ((numsOf a).map V.int) 1 = some (.int a.l) := atI_nat (j := 1) rfl
    have e2 : atI ((numsOf a).map V.int) 2 = some (.int a.o) := atI_nat (j := 2) rfl
    have e3 : atI ((numsOf a).map V.int) 3 = some (.int a.q) := atI_nat (j := 3) rfl
    repeat walk_at "s"
    refine r_lenL (SqL.of hl6) ?_
    repeat walk_at "s"
    rw [List.length_map, decide_eq_true (by simp [numsOf])]
    repeat walk_at "s"
    refine r_in (.inl (SqL.of hl6)) rfl (flat_ints _) ?_
    rw [none_in_ints]
    repeat walk_at "s"
    refine r_ixL (SqL.of hl6) e0 ?_
    repeat walk_at "s"
    refine ⟨m, cM K, dx, _, _, rfl, hmi, T.i_Machine.cl, T.n_Machine_states, mf_n _ _ _, ?_⟩
    repeat walk_at "s"
    rw [decide_eq_false (by have := O.f1; omega)]
    repeat walk_at "s"
    refine r_ixL (SqL.of hl6) e0 ?_
    repeat walk_at "s"
    refine r_ixL (SqL.of hl6) e1 ?_
    repeat walk_at "s"
    refine r_ixL (SqL.of hl6) e2 ?_
    repeat walk_at "s"
    refine r_ixL (SqL.of hl6) e3 ?_
    repeat walk_at "s"
    refine made_link (hmm.same s6) O fun x H7 s7 hx hx7 => ?_
    repeat walk_at "s"
    refine r_lenL (SqL.of ((s6.trans s7) _ _ hls5)) ?_
    repeat walk_at "s"
    rw [allV_len, decide_eq_false (by omega)]
    repeat walk_at "s"
    exact k x m H7 ((s05.trans s6).trans s7) (none_same (s05.trans s6) hx) (none_same (s03.trans s4) hm) hx7
end
end P45

namespace P45
open PySem PySem.Spec PyProof.Rows L2 Pg
local macro_rules | `(tactic| walk_at "s") => `(tactic| first
  | ((with_reducible refine r_var (v := ?v) ?h ?q); case h => rfl)
  | (with_reducible refine r_c ?_)
  | (with_reducible refine r_op ?_)
  | (with_reducible refine r_un ?_)
  | (with_reducible refine r_I0 ?_)
  | (with_reducible refine r_U ?_)
  | (with_reducible refine r_addI ?_)
  | (with_reducible refine r_eqI ?_)
  | (with_reducible refine r_neI ?_)
  | (with_reducible refine r_eqT ?_)
  | (with_reducible refine r_neT ?_)
  | (with_reducible refine r_seq ?_)
  | (with_reducible refine r_asg ?_)
  | ((with_reducible refine r_name (σ' := ?s) ?h ?q); case h => (simp only [List.set_cons_zero, List.set_cons_succ, L2.start, List.map_cons, List.map_nil, List.length_cons, List.length_nil, List.cons_append, List.nil_append, List.replicate_succ, List.replicate_zero, Nat.reduceAdd, Nat.reduceSub]; rfl))
  | (with_reducible refine r_cons ?_)
  | (with_reducible refine r_nil ?_)
  | (with_reducible refine r_call ?_)
  | (with_reducible refine r_cb ?_)
  | (with_reducible refine r_ret ?_)
  | (with_reducible refine r_retN ?_)
  | (with_reducible refine r_ifs ?_)
  | (with_reducible refine r_if ?_)
  | (with_reducible refine r_tt ?_)
  | (with_reducible refine r_tb ?_)
  | (with_reducible refine r_tand ?_)
  | (with_reducible refine r_tor ?_)
  | (with_reducible refine r_tnot ?_)
  | (with_reducible refine r_and ?_)
  | (with_reducible refine r_or ?_)
  | (with_reducible refine r_not ?_)
  | (with_reducible refine r_chain ?_)
  | (with_reducible refine r_bl ?_)
  | (with_reducible refine r_int ?_)
  | (with_reducible refine r_iteT ?_)
  | (with_reducible refine r_iteF ?_)
  | (with_reducible refine r_inT ?_)
  | (with_reducible refine r_inF ?_)
  | (with_reducible refine r_intc ?_)
  | (with_reducible refine r_abs ?_)
  | (with_reducible refine r_lst ?_)
  | (with_reducible refine r_tup ?_)
  | (with_reducible refine r_sl ?_)
  | (with_reducible refine r_nopart ?_)
  | (with_reducible refine r_part ?_)
  | (with_reducible refine r_bm ?_)
  | (with_reducible refine r_bm0 ?_)
  | (with_reducible refine r_m1 ?_)
  | (with_reducible refine r_gsub ?_)
  | (with_reducible refine r_drop ?_)
  | (with_reducible refine r_next ?_)
  | (with_reducible refine r_par ?_)
  | (with_reducible refine r_par3 ?_)
  | (with_reducible refine r_par2 ?_)
  | (with_reducible refine r_fld ?_)
  | (with_reducible refine r_sfld ?_)
  | (with_reducible refine r_make ?_)
  | (with_reducible refine r_strI ?_)
  | (with_reducible refine r_min ?_)
  | (with_reducible refine r_max ?_))
local macro_rules | `(tactic| walk_at "n") => `(tactic| first
  | ((with_reducible refine r_var (v := ?v) ?h ?q); case h => rfl)
  | (with_reducible refine r_c ?_)
  | (with_reducible refine r_op ?_)
  | (with_reducible refine r_un ?_)
  | (with_reducible refine r_I0 ?_)
  | (with_reducible refine r_U ?_)
  | (with_reducible refine r_addI ?_)
  | (with_reducible refine r_eqI ?_)
  | (with_reducible refine r_neI ?_)
  | (with_reducible refine r_eqT ?_)
  | (with_reducible refine r_neT ?_)
  | (with_reducible refine r_asg ?_)
  | ((with_reducible refine r_name (σ' := ?s) ?h ?q); case h => (simp only [List.set_cons_zero, List.set_cons_succ, L2.start, List.map_cons, List.map_nil, List.length_cons, List.length_nil, List.cons_append, List.nil_append, List.replicate_succ, List.replicate_zero, Nat.reduceAdd, Nat.reduceSub]; rfl))
  | (with_reducible refine r_cons ?_)
  | (with_reducible refine r_nil ?_)
  | (with_reducible refine r_call ?_)
  | (with_reducible refine r_cb ?_)
  | (with_reducible refine r_ret ?_)
  | (with_reducible refine r_retN ?_)
  | (with_reducible refine r_ifs ?_)
  | (with_reducible refine r_if ?_)
  | (with_reducible refine r_tt ?_)
  | (with_reducible refine r_tb ?_)
  | (with_reducible refine r_tand ?_)
  | (with_reducible refine r_tor ?_)
  | (with_reducible refine r_tnot ?_)
  | (with_reducible refine r_and ?_)
  | (with_reducible refine r_or ?_)
  | (with_reducible refine r_not ?_)
  | (with_reducible refine r_chain ?_)
  | (with_reducible refine r_bl ?_)
  | (with_reducible refine r_int ?_)
  | (with_reducible refine r_iteT ?_)
  | (with_reducible refine r_iteF ?_)
  | (with_reducible refine r_inT ?_)
  | (with_reducible refine r_inF ?_)
  | (with_reducible refine r_intc ?_)
  | (with_reducible refine r_abs ?_)
  | (with_reducible refine r_lst ?_)
  | (with_reducible refine r_tup ?_)
  | (with_reducible refine r_sl ?_)
  | (with_reducible refine r_nopart ?_)
  | (with_reducible refine r_part ?_)
  | (with_reducible refine r_bm ?_)
  | (with_reducible refine r_bm0 ?_)
  | (with_reducible refine r_m1 ?_)
  | (with_reducible refine r_gsub ?_)
  | (with_reducible refine r_drop ?_)
  | (with_reducible refine r_next ?_)
  | (with_reducible refine r_par ?_)
  | (with_reducible refine r_par3 ?_)
  | (with_reducible refine r_par2 ?_)
  | (with_reducible refine r_fld ?_)
  | (with_reducible refine r_sfld ?_)
  | (with_reducible refine r_make ?_)
  | (with_reducible refine r_strI ?_)
  | (with_reducible refine r_min ?_)
  | (with_reducible refine r_max ?_))
local macro_rules | `(tactic| walk_at "len") => `(tactic| (intro _ _ _ _ h; first | (obtain ⟨e, _⟩ := h; subst e; rfl) | (obtain ⟨_, e, _⟩ := h; subst e; rfl) | (obtain ⟨_, _, e, _⟩ := h; subst e; rfl) | (obtain ⟨_, _, _, e, _⟩ := h; subst e; rfl) | (obtain ⟨_, _, _, _, e, _⟩ := h; subst e; rfl) | (obtain ⟨_, _, _, _, _, e, _⟩ := h; subst e; rfl) | (obtain ⟨_, _, _, _, _, _, e, _⟩ := h; subst e; rfl) | (obtain ⟨_, _, _, _, _, _, _, e, _⟩ := h; subst e; rfl) | (obtain ⟨_, _, _, _, _, _, _, _, e, _⟩ := h; subst e; rfl) | (obtain ⟨_, _, _, _, _, _, _, _, _, e, _⟩ := h; subst e; rfl) | (obtain ⟨_, _, _, _, _, _, _, _, _, _, e, _⟩ := h; subst e; rfl) | (obtain ⟨_, _, _, _, _, _, _, _, _, _, _, e, _⟩ := h; subst e; rfl)))

section
variable {P : Program} {w : World} {K : PySem.W.Frag} {mg : Str → Option Value} {base : Heap}
/-! ### the draws' box -/
def sp__law_box (K : PySem.W.Frag) : Sp := fun vs H Q _ => ∃ (a : Addr) (ns : List Int) (k : Int), vs = [.ref a, .int k] ∧ SqL K H a (ns.map V.int) ∧ 0 ≤ k ∧ k < 100 ∧ ∀ b H', Same H H' → H b = none → Bx H' b → Q (.ref b) H'
theorem ok__law_box {f : Addr} {fd : FuncData} (F : At K mg "_law_box" s__law_box [] [] f fd) (T : Tx K mg)  : Cl P w K mg base 1 "_law_box" (sp__law_box K) [] := by
  refine cl_of F sc__law_box (fun _ _ _ _ _ _ us hl => match us, hl with | [_, _], _ => rfl) (by walk_at "len") (fun cdv A outer s H vs Q E hr h => ?_)
  obtain ⟨a, ns, z, rfl, hs, h0, h1, k⟩ := h
  refine ⟨_, (pss_cons (ps_set (i := 2) sc__law_box.nd rfl (Or.inl rfl) (pe_op (kAdd K) (pe_op op_mul pe_int (pv 1)) pe_int))
      (pss_cons (ps_if (pt_cmpR op_lt (pv 1) (pe_callB (kLen K) rfl T.b_len (by decide +kernel) (pa_cons (pv 0) pa_nil)) (nomark _)) (pss_one (ps_set (i := 2) sc__law_box.nd rfl (Or.inl rfl) (pe_callB call_absU rfl T.b_abs (by decide +kernel) (pa_cons (pe_callTy call_intU rfl T.b_int (by decide +kernel) (pa_cons (pe_ix (kIx K) (pv 0) (pv 1) (fun _ _ => rfl)) pa_nil)) pa_nil)))) (pss_one (ps_if (pt_cmpR op_gt (pe_callB (kLen K) rfl T.b_len (by decide +kernel) (pa_cons (pv 0) pa_nil)) pe_int (nomark _)) (pss_one (ps_set (i := 2) sc__law_box.nd rfl (Or.inl rfl) (pe_op (kAdd K) (pv 2) (pe_op op_mul (pe_op op_mod (pe_callTy call_intU rfl T.b_int (by decide +kernel) (pa_cons (pe_callB call_absU rfl T.b_abs (by decide +kernel) (pa_cons (pe_callTy call_intU rfl T.b_int (by decide +kernel) (pa_cons (pe_ix (kIx K) (pv 0) (pe_op op_mod (pe_callTy call_intU rfl T.b_int (by decide +kernel) (pa_cons (pv 1) pa_nil)) (pe_callB (kLen K) rfl T.b_len (by decide +kernel) (pa_cons (pv 0) pa_nil))) (fun _ _ => rfl)) pa_nil)) pa_nil)) pa_nil)) pe_int) pe_int)))) pss_nil)))
      (pss_cons (ps_set (i := 3) sc__law_box.nd rfl (Or.inl rfl) (pe_ifExp (pt_cmpR op_ge (pv 2) (pe_op op_pow pe_int pe_int) (nomark _)) (pv 2) pe_int))
      (pss_one (ps_ret (pe_lst (pa_cons (pv 3) (pa_cons (pe_op (kAdd K) (pe_op op_mod (pe_callTy call_intU rfl T.b_int (by decide +kernel) (pa_cons (pe_op (kAdd K) (pe_op op_mul (pe_op op_mod (pe_callTy call_intU rfl T.b_int (by decide +kernel) (pa_cons (pv 2) pa_nil)) pe_int) pe_int) (pe_op op_mul pe_int (pv 1))) pa_nil)) pe_int) pe_int) pa_nil)))))))), ?_⟩
  repeat walk_at "s"
  refine r_I (.inl ⟨by decide, by decide⟩) ?_
  repeat walk_at "s"
  refine r_lenL hs ?_
  repeat walk_at "s"
  rw [List.length_map]
  refine r_dec (fun hk => ?b1) (fun hk => ?b2)
  case' b1 =>
    obtain ⟨z', rfl⟩ : ∃ z' : Nat, z = (z' : Int) := ⟨z.toNat, by omega⟩
    have hz : ns[z']? = some ns[z'] := List.getElem?_eq_getElem (by omega)
    repeat walk_at "s"
    refine r_ixL hs (v := V.int ns[z']) (atI_nat (by rw [List.getElem?_map, hz]; rfl)) ?_
  case' b2 =>
    repeat walk_at "s"
    refine r_lenL hs ?_
    repeat walk_at "s"
    rw [List.length_map]
    refine r_dec (fun hl => ?b3) (fun hl => ?b4)
    case' b3 =>
      have h3 : (z % (ns.length : Int)).toNat < ns.length := by
        have := Int.emod_lt_of_pos z (show (0 : Int) < ns.length by omega)
        have := Int.emod_nonneg z (show (ns.length : Int) ≠ 0 by omega)
        omega
      have hz : ns[(z % (ns.length : Int)).toNat]? = some ns[(z % (ns.length : Int)).toNat] := List.getElem?_eq_getElem h3
      have e3 : z % (ns.length : Int) = ((z % (ns.length : Int)).toNat : Int) := by
        have := Int.emod_nonneg z (show (ns.length : Int) ≠ 0 by omega)
        omega
      repeat walk_at "s"
      refine r_lenL hs ?_
      rw [List.length_map]
      refine r_I (by omega) ?_
      rw [e3]
      refine r_ixL hs (v := V.int ns[(z % (ns.length : Int)).toNat]) (atI_nat (by rw [List.getElem?_map, hz]; rfl)) ?_
      repeat walk_at "s"
      refine r_I (by decide) ?_
      repeat walk_at "s"
      refine r_I (.inr ⟨by decide, by decide⟩) ?_
  all_goals
    repeat walk_at "s"
    refine r_I ⟨by decide, by decide, by decide⟩ ?_
    repeat walk_at "s"
    refine r_dec (fun _ => ?_) (fun _ => ?_)
    all_goals
      repeat walk_at "s"
      refine r_I (by decide) ?_
      repeat walk_at "s"
      refine r_I (.inr ⟨by decide, by decide⟩) ?_
      repeat walk_at "s"
      refine r_I (.inl ⟨by decide, by decide⟩) ?_
      repeat walk_at "s"
      refine r_I (by decide) ?_
      repeat walk_at "s"
      exact ⟨szl (by simp), fun b hb => k b _ (same_upd hb) hb ⟨_, _, upd_same⟩⟩
/-! ### the same data -/
theorem ok__law_same {f : Addr} {fd : FuncData} (F : At K mg "_law_same" s__law_same [] [] f fd) (T : Tx K mg) : ∀ m, Cl P w K mg base m "_law_same" (spSame K m) [] := by
  intro m
  induction m with
  | zero => exact cl_zero (ps := ["told", "due"]) F (fun _ _ _ _ _ _ us hl => match us, hl with | [_, _], _ => rfl) (fun vs H Q E h => by obtain ⟨u, v, _, h, _⟩ := h; exact h)
  | succ m c__law_same =>
    refine cl_of F sc__law_same (fun _ _ _ _ _ _ us hl => match us, hl with | [_, _], _ => rfl) (by walk_at "len") (fun cdv A outer s H vs Q E hr h => ?_)
    obtain ⟨u, v, rfl, hd, k⟩ := h
    refine ⟨_, (pss_cons (ps_if (pt_val (pe_callB (kIsi K) rfl T.b_isinstance (by decide +kernel) (pa_cons (pv 1) (pa_cons (pe_tup (pa_cons (pe_bltn (v := .ty "tuple") rfl T.b_tuple (by decide +kernel) rfl) (pa_cons (pe_bltn (v := .ty "list") rfl T.b_list (by decide +kernel) rfl) pa_nil))) pa_nil)))) (pss_cons (ps_set (i := 2) sc__law_same.nd rfl (Or.inl rfl) (pe_ifExp (pt_val (pe_callB (kIsi K) rfl T.b_isinstance (by decide +kernel) (pa_cons (pv 1) (pa_cons (pe_bltn (v := .ty "tuple") rfl T.b_tuple (by decide +kernel) rfl) pa_nil)))) (pe_callB (kIsi K) rfl T.b_isinstance (by decide +kernel) (pa_cons (pv 0) (pa_cons (pe_bltn (v := .ty "tuple") rfl T.b_tuple (by decide +kernel) rfl) pa_nil))) (pe_callB (kIsi K) rfl T.b_isinstance (by decide +kernel) (pa_cons (pv 0) (pa_cons (pe_bltn (v := .ty "list") rfl T.b_list (by decide +kernel) rfl) pa_nil)))))
      (pss_cons (ps_if (PW.pt (pw_or (pt_not (pt_val (pv 2))) (pw_or1 (pt_cmpR (kNe K hr) (pe_callB (kLen K) rfl T.b_len (by decide +kernel) (pa_cons (pv 0) pa_nil)) (pe_callB (kLen K) rfl T.b_len (by decide +kernel) (pa_cons (pv 1) pa_nil)) (nomark _))))) (pss_one (ps_ret pe_bl)) pss_nil)
      (pss_cons (ps_for PassesOwn.never rfl (RZ.pi_zipA rfl T.b_zip (pa_cons (pv 0) (pa_cons (pv 1) pa_nil))) (pg_tup rfl (pgs_cons (pg_name (i := 3) sc__law_same.nd rfl (Or.inl rfl)) (pgs_cons (pg_name (i := 4) sc__law_same.nd rfl (Or.inl rfl)) pgs_nil)))
      (pss_one (ps_if (pt_not (pt_val (pcl c__law_same hr (Nat.le_refl _) rfl (pa_cons (pv 3) (pa_cons (pv 4) pa_nil))))) (pss_one (ps_ret pe_bl)) pss_nil)))
      (pss_one (ps_ret pe_bl))))) pss_nil)
      (pss_cons (ps_if (pt_cmpR op_isN (pv 1) pe_non (nomark _)) (pss_one (ps_ret (pe_cmpR op_isN (pv 0) pe_non (nomark _)))) pss_nil)
      (pss_cons (ps_if (PW.pt (pw_or (pt_cmpR op_isBU (pv 1) pe_bl (nomark _)) (pw_or1 (pt_cmpR op_isBU (pv 1) pe_bl (nomark _))))) (pss_one (ps_ret (pe_and (pe_callB (kIsi K) rfl T.b_isinstance (by decide +kernel) (pa_cons (pv 0) (pa_cons (pe_bltn (v := .ty "bool") rfl T.b_bool (by decide +kernel) rfl) pa_nil))) (pe_one (pe_cmpR (kEq K hr) (pv 0) (pv 1) (nomark _)))))) pss_nil)
      (pss_cons (ps_if (pt_val (pe_callB (kIsi K) rfl T.b_isinstance (by decide +kernel) (pa_cons (pv 1) (pa_cons (pe_bltn (v := .ty "int") rfl T.b_int (by decide +kernel) rfl) pa_nil)))) (pss_one (ps_ret (pe_and (pe_callB (kIsi K) rfl T.b_isinstance (by decide +kernel) (pa_cons (pv 0) (pa_cons (pe_bltn (v := .ty "int") rfl T.b_int (by decide +kernel) rfl) pa_nil))) (pe_and (pe_not (pe_callB (kIsi K) rfl T.b_isinstance (by decide +kernel) (pa_cons (pv 0) (pa_cons (pe_bltn (v := .ty "bool") rfl T.b_bool (by decide +kernel) rfl) pa_nil)))) (pe_one (pe_cmpR (kEq K hr) (pv 0) (pv 1) (nomark _))))))) pss_nil)
      (pss_one (ps_ret (pe_and (pe_callB (kIsi K) rfl T.b_isinstance (by decide +kernel) (pa_cons (pv 0) (pa_cons (pe_bltn (v := .ty "str") rfl T.b_str (by decide +kernel) rfl) pa_nil))) (pe_one (pe_cmpR (kEq K hr) (pv 0) (pv 1) (nomark _)))))))))), ?_⟩
    repeat walk_at "s"
    refine ⟨szl (by simp), fun p hp => ?_⟩
    have s1 : Same H (upd H p (.tup [.ty "tuple", .ty "list"])) := same_upd hp
    repeat walk_at "s"
    rcases hd with ⟨rfl, hf⟩ | ⟨a, b, xs, ys, rfl, rfl, hab, hp2⟩
    · have kk := k _ s1
      cases u with
      | non =>
        refine r_isi2N upd_same (.base .non) (by decide +kernel : kitB "NoneType" "tuple" = some false) (by decide +kernel : kitB "NoneType" "list" = some false) ?_
        repeat walk_at "s"
        refine ⟨rfl, ?_⟩
        rw [decide_eq_true rfl]
        repeat walk_at "s"
        refine ⟨rfl, ?_⟩
        rw [decide_eq_true rfl]
        exact kk
      | bl c =>
        refine r_isi2N upd_same (.base (.bl c)) (by decide +kernel : kitB "bool" "tuple" = some false) (by decide +kernel : kitB "bool" "list" = some false) ?_
        repeat walk_at "s"
        refine ⟨rfl, ?_⟩
        rw [decide_eq_false (by simp)]
        repeat walk_at "s"
        refine r_isB ?_
        cases c with
        | true =>
          rw [decide_eq_true rfl]
          repeat walk_at "s"
          refine r_isi (.base (.bl _)) (by decide +kernel : kitB "bool" "bool" = some true) ?_
          repeat walk_at "s"
          refine r_eqS rfl ?_
          rw [decide_eq_true rfl]
          exact kk
        | false =>
          rw [decide_eq_false (by simp)]
          repeat walk_at "s"
          refine r_isB ?_
          rw [decide_eq_true rfl]
          repeat walk_at "s"
          refine r_isi (.base (.bl _)) (by decide +kernel : kitB "bool" "bool" = some true) ?_
          repeat walk_at "s"
          refine r_eqS rfl ?_
          rw [decide_eq_true rfl]
          exact kk
      | int i =>
        refine r_isi2N upd_same (.base (.int i)) (by decide +kernel : kitB "int" "tuple" = some false) (by decide +kernel : kitB "int" "list" = some false) ?_
        repeat walk_at "s"
        refine ⟨rfl, ?_⟩
        rw [decide_eq_false (by simp)]
        repeat walk_at "s"
        refine r_isBI ?_
        repeat walk_at "s"
        refine r_isBI ?_
        repeat walk_at "s"
        refine r_isi (.base (.int i)) (by decide +kernel : kitB "int" "int" = some true) ?_
        repeat walk_at "s"
        refine r_isi (.base (.int i)) (by decide +kernel : kitB "int" "int" = some true) ?_
        repeat walk_at "s"
        refine r_isi (.base (.int i)) (by decide +kernel : kitB "int" "bool" = some false) ?_
        repeat walk_at "s"
        rw [decide_eq_true rfl]
        exact kk
      | str z =>
        refine r_isi2N upd_same (.base (.str z)) (by decide +kernel : kitB "str" "tuple" = some false) (by decide +kernel : kitB "str" "list" = some false) ?_
        repeat walk_at "s"
        refine ⟨rfl, ?_⟩
        rw [decide_eq_false (by simp)]
        repeat walk_at "s"
        refine r_isBS ?_
        repeat walk_at "s"
        refine r_isBS ?_
        repeat walk_at "s"
        refine r_isi (.base (.str z)) (by decide +kernel : kitB "str" "int" = some false) ?_
        repeat walk_at "s"
        refine r_isi (.base (.str z)) (by decide +kernel : kitB "str" "str" = some true) ?_
        repeat walk_at "s"
        rw [decide_eq_true rfl]
        exact kk
      | _ => simp [flatV] at hf
    · have hl : xs.length = ys.length := paired_len hp2
      rcases hab with ⟨ha, hb⟩ | ⟨ha, hb⟩
      · have ha := SqL.ext ha s1
        have hb := SqL.ext hb s1
        refine r_isi2Y upd_same (ty_L hb) (by decide +kernel : kitB "list" "tuple" = some false) (by decide +kernel : kitB "list" "list" = some true) rfl ?_
        repeat walk_at "s"
        refine r_isi (ty_L hb) (by decide +kernel : kitB "list" "tuple" = some false) ?_
        repeat walk_at "s"
        refine r_isi (ty_L ha) (by decide +kernel : kitB "list" "list" = some true) ?_
        repeat walk_at "s"
        refine r_lenL ha ?_
        repeat walk_at "s"
        refine r_lenL hb ?_
        repeat walk_at "s"
        rw [decide_eq_true (by omega)]
        repeat walk_at "s"
        refine r_for (r_izipL ha hb rfl rfl hl.symm fun J Gd hG wk => ?_)
        refine for_ask wk (fun i σ H' => ∃ x y z, σ = [some (.ref a), some (.ref b), x, y, z] ∧ Same _ H') ⟨_, _, _, rfl, Same.refl _⟩ (fun i σ H' _ ⟨_, _, _, _, s⟩ => hG _ s) ?_ ?_
        · rintro i x σ H3 H4 hi ⟨x1, y1, z1, rfl, s3⟩ ⟨T, x, y, rfl, hT, rfl, hx, hy⟩
          have s4 := s3.trans (same_upd (o := .tup [x, y]) hT)
          refine r_gpair upd_same ?_
          obtain ⟨y', e, q⟩ := paired_at hp2 hx
          have e : y' = y := Option.some.inj (e.symm.trans hy)
          subst e
          repeat walk_at "s"
          refine ⟨x, y', rfl, Sd.same (s1.trans s4) q, fun H5 s5 => ?_⟩
          repeat walk_at "s"
          exact ⟨_, _, _, rfl, s4.trans s5⟩
        · rintro σ H3 ⟨x1, y1, z1, rfl, s3⟩
          repeat walk_at "s"
          exact k _ (s1.trans s3)
      · have ha := SqT.ext ha s1
        have hb := SqT.ext hb s1
        refine r_isi2Y upd_same (ty_T hb) (by decide +kernel : kitB "tuple" "tuple" = some true) (by decide +kernel : kitB "tuple" "list" = some false) rfl ?_
        repeat walk_at "s"
        refine r_isi (ty_T hb) (by decide +kernel : kitB "tuple" "tuple" = some true) ?_
        repeat walk_at "s"
        refine r_isi (ty_T ha) (by decide +kernel : kitB "tuple" "tuple" = some true) ?_
        repeat walk_at "s"
        refine r_lenT ha ?_
        repeat walk_at "s"
        refine r_lenT hb ?_
        repeat walk_at "s"
        rw [decide_eq_true (by omega)]
        repeat walk_at "s"
        refine r_for (r_izipT ha hb rfl rfl hl.symm fun J Gd hG wk => ?_)
        refine for_ask wk (fun i σ H' => ∃ x y z, σ = [some (.ref a), some (.ref b), x, y, z] ∧ Same _ H') ⟨_, _, _, rfl, Same.refl _⟩ (fun i σ H' _ ⟨_, _, _, _, s⟩ => hG _ s) ?_ ?_
        · rintro i x σ H3 H4 hi ⟨x1, y1, z1, rfl, s3⟩ ⟨T, x, y, rfl, hT, rfl, hx, hy⟩
          have s4 := s3.trans (same_upd (o := .tup [x, y]) hT)
          refine r_gpair upd_same ?_
          obtain ⟨y', e, q⟩ := paired_at hp2 hx
          have e : y' = y := Option.some.inj (e.symm.trans hy)
          subst e
          repeat walk_at "s"
          refine ⟨x, y', rfl, Sd.same (s1.trans s4) q, fun H5 s5 => ?_⟩
          repeat walk_at "s"
          exact ⟨_, _, _, rfl, s4.trans s5⟩
        · rintro σ H3 ⟨x1, y1, z1, rfl, s3⟩
          repeat walk_at "s"
          exact k _ (s1.trans s3)
end
end P45

namespace P45
open PySem PySem.Spec PyProof.Rows L2 Pg
local macro_rules | `(tactic| walk_at "s") => `(tactic| first
  | ((with_reducible refine r_var (v := ?v) ?h ?q); case h => rfl)
  | (with_reducible refine r_c ?_)
  | (with_reducible refine r_op ?_)
  | (with_reducible refine r_un ?_)
  | (with_reducible refine r_I0 ?_)
  | (with_reducible refine r_U ?_)
  | (with_reducible refine r_addI ?_)
  | (with_reducible refine r_eqI ?_)
  | (with_reducible refine r_neI ?_)
  | (with_reducible refine r_eqT ?_)
  | (with_reducible refine r_neT ?_)
  | (with_reducible refine r_seq ?_)
  | (with_reducible refine r_asg ?_)
  | ((with_reducible refine r_name (σ' := ?s) ?h ?q); case h => (simp only [List.set_cons_zero, List.set_cons_succ, L2.start, List.map_cons, List.map_nil, List.length_cons, List.length_nil, List.cons_append, List.nil_append, List.replicate_succ, List.replicate_zero, Nat.reduceAdd, Nat.reduceSub]; rfl))
  | (with_reducible refine r_cons ?_)
  | (with_reducible refine r_nil ?_)
  | (with_reducible refine r_call ?_)
  | (with_reducible refine r_cb ?_)
  | (with_reducible refine r_ret ?_)
  | (with_reducible refine r_retN ?_)
  | (with_reducible refine r_ifs ?_)
  | (with_reducible refine r_if ?_)
  | (with_reducible refine r_tt ?_)
  | (with_reducible refine r_tb ?_)
  | (with_reducible refine r_tand ?_)
  | (with_reducible refine r_tor ?_)
  | (with_reducible refine r_tnot ?_)
  | (with_reducible refine r_and ?_)
  | (with_reducible refine r_or ?_)
  | (with_reducible refine r_not ?_)
  | (with_reducible refine r_chain ?_)
  | (with_reducible refine r_bl ?_)
  | (with_reducible refine r_int ?_)
  | (with_reducible refine r_iteT ?_)
  | (with_reducible refine r_iteF ?_)
  | (with_reducible refine r_inT ?_)
  | (with_reducible refine r_inF ?_)
  | (with_reducible refine r_intc ?_)
  | (with_reducible refine r_abs ?_)
  | (with_reducible refine r_lst ?_)
  | (with_reducible refine r_tup ?_)
  | (with_reducible refine r_sl ?_)
  | (with_reducible refine r_nopart ?_)
  | (with_reducible refine r_part ?_)
  | (with_reducible refine r_bm ?_)
  | (with_reducible refine r_bm0 ?_)
  | (with_reducible refine r_m1 ?_)
  | (with_reducible refine r_gsub ?_)
  | (with_reducible refine r_drop ?_)
  | (with_reducible refine r_next ?_)
  | (with_reducible refine r_par ?_)
  | (with_reducible refine r_par3 ?_)
  | (with_reducible refine r_par2 ?_)
  | (with_reducible refine r_fld ?_)
  | (with_reducible refine r_sfld ?_)
  | (with_reducible refine r_make ?_)
  | (with_reducible refine r_strI ?_)
  | (with_reducible refine r_min ?_)
  | (with_reducible refine r_max ?_))
local macro_rules | `(tactic| walk_at "n") => `(tactic| first
  | ((with_reducible refine r_var (v := ?v) ?h ?q); case h => rfl)
  | (with_reducible refine r_c ?_)
  | (with_reducible refine r_op ?_)
  | (with_reducible refine r_un ?_)
  | (with_reducible refine r_I0 ?_)
  | (with_reducible refine r_U ?_)
  | (with_reducible refine r_addI ?_)
  | (with_reducible refine r_eqI ?_)
  | (with_reducible refine r_neI ?_)
  | (with_reducible refine r_eqT ?_)
  | (with_reducible refine r_neT ?_)
  | (with_reducible refine r_asg ?_)
  | ((with_reducible refine r_name (σ' := ?s) ?h ?q); case h => (simp only [List.set_cons_zero, List.set_cons_succ, L2.start, List.map_cons, List.map_nil, List.length_cons, List.length_nil, List.cons_append, List.nil_append, List.replicate_succ, List.replicate_zero, Nat.reduceAdd, Nat.reduceSub]; rfl))
  | (with_reducible refine r_cons ?_)
  | (with_reducible refine r_nil ?_)
  | (with_reducible refine r_call ?_)
  | (with_reducible refine r_cb ?_)
  | (with_reducible refine r_ret ?_)
  | (with_reducible refine r_retN ?_)
  | (with_reducible refine r_ifs ?_)
  | (with_reducible refine r_if ?_)
  | (with_reducible refine r_tt ?_)
  | (with_reducible refine r_tb ?_)
  | (with_reducible refine r_tand ?_)
  | (with_reducible refine r_tor ?_)
  | (with_reducible refine r_tnot ?_)
  | (with_reducible refine r_and ?_)
  | (with_reducible refine r_or ?_)
  | (with_reducible refine r_not ?_)
  | (with_reducible refine r_chain ?_)
  | (with_reducible refine r_bl ?_)
  | (with_reducible refine r_int ?_)
  | (with_reducible refine r_iteT ?_)
  | (with_reducible refine r_iteF ?_)
  | (with_reducible refine r_inT ?_)
  | (with_reducible refine r_inF ?_)
  | (with_reducible refine r_intc ?_)
  | (with_reducible refine r_abs ?_)
  | (with_reducible refine r_lst ?_)
  | (with_reducible refine r_tup ?_)
  | (with_reducible refine r_sl ?_)
  | (with_reducible refine r_nopart ?_)
  | (with_reducible refine r_part ?_)
  | (with_reducible refine r_bm ?_)
  | (with_reducible refine r_bm0 ?_)
  | (with_reducible refine r_m1 ?_)
  | (with_reducible refine r_gsub ?_)
  | (with_reducible refine r_drop ?_)
  | (with_reducible refine r_next ?_)
  | (with_reducible refine r_par ?_)
  | (with_reducible refine r_par3 ?_)
  | (with_reducible refine r_par2 ?_)
  | (with_reducible refine r_fld ?_)
  | (with_reducible refine r_sfld ?_)
  | (with_reducible refine r_make ?_)
  | (with_reducible refine r_strI ?_)
  | (with_reducible refine r_min ?_)
  | (with_reducible refine r_max ?_))
local macro_rules | `(tactic| walk_at "len") => `(tactic| (intro _ _ _ _ h; first | (obtain ⟨e, _⟩ := h; subst e; rfl) | (obtain ⟨_, e, _⟩ := h; subst e; rfl) | (obtain ⟨_, _, e, _⟩ := h; subst e; rfl) | (obtain ⟨_, _, _, e, _⟩ := h; subst e; rfl) | (obtain ⟨_, _, _, _, e, _⟩ := h; subst e; rfl) | (obtain ⟨_, _, _, _, _, e, _⟩ := h; subst e; rfl) | (obtain ⟨_, _, _, _, _, _, e, _⟩ := h; subst e; rfl) | (obtain ⟨_, _, _, _, _, _, _, e, _⟩ := h; subst e; rfl) | (obtain ⟨_, _, _, _, _, _, _, _, e, _⟩ := h; subst e; rfl) | (obtain ⟨_, _, _, _, _, _, _, _, _, e, _⟩ := h; subst e; rfl) | (obtain ⟨_, _, _, _, _, _, _, _, _, _, e, _⟩ := h; subst e; rfl) | (obtain ⟨_, _, _, _, _, _, _, _, _, _, _, e, _⟩ := h; subst e; rfl)))

section
variable {P : Program} {w : World} {K : PySem.W.Frag} {mg : Str → Option Value} {base : Heap}
/-! ### tables, none at the box -/
def TabB (b : Addr) (K : PySem.W.Frag) (H : Hp) (v : V) (tabs : List (List Int)) : Prop := ∃ a rs, v = .ref a ∧ a ≠ b ∧ Sq K H a rs ∧ Paired (fun (r : V) (t : List Int) => ∃ c, r = .ref c ∧ c ≠ b ∧ Sq K H c (t.map V.int)) rs tabs
theorem TabB.tab {b : Addr} {H : Hp} {v : V} {tabs : List (List Int)} (h : TabB b K H v tabs) : TabV K H v tabs := by
  obtain ⟨a, rs, e, n, q, r⟩ := h
  exact ⟨a, rs, e, q, Paired.mapP r fun _ _ ⟨c, e, _, q⟩ => ⟨c, e, q⟩⟩
theorem TabB.sb {b : Addr} {H H' : Hp} {v : V} {tabs : List (List Int)} (s : Sb b H H') (hb : Bx H b) (h : TabB b K H v tabs) : TabB b K H' v tabs := by
  obtain ⟨a, rs, e, n, q, r⟩ := h
  exact ⟨a, rs, e, n, Sq.sb s hb n q, Paired.mapP r fun _ _ ⟨c, e, n, q⟩ => ⟨c, e, n, Sq.sb s hb n q⟩⟩
theorem TabB.of {b a : Addr} {av : List Addr} {H : Hp} {rs : List V} {tabs : List (List Int)} (h : Rw av H rs tabs) (m : b ∈ av) (n : a ≠ b) (e : H a = some (.lst rs)) : TabB b K H (.ref a) tabs :=
  ⟨a, rs, rfl, n, .inl (SqL.of e), Paired.mapP h.at_ fun _ _ ⟨c, e, n, q⟩ => ⟨c, e, fun z => n (z ▸ m), .inl (SqL.of q)⟩⟩
theorem Good.set {tabs : List (List Int)} {n : Nat} (G : Good tabs n) {i p : Nat} {t : List Int} {x : Int} (h : tabs[i]? = some t) (h0 : 0 ≤ x) (h1 : x < (n : Int)) : Good (tabs.set i (t.set p x)) n := by
  have ht := List.mem_of_getElem? h
  refine ⟨by simp; exact G.ne, by simp; exact G.few, G.n1, G.n8, fun u hu => ?_, fun u hu y hy => ?_⟩
  · rcases List.mem_or_eq_of_mem_set hu with hu | rfl
    · exact G.len u hu
    · simp; exact G.len t ht
  · rcases List.mem_or_eq_of_mem_set hu with hu | rfl
    · exact G.bnd u hu y hy
    · rcases List.mem_or_eq_of_mem_set hy with hy | rfl
      · exact G.bnd t ht y hy
      · exact ⟨h0, h1⟩
theorem Good.ins {tabs : List (List Int)} {n : Nat} (G : Good tabs n) {i : Nat} {t : List Int} (h : tabs.length < 4) (hl : t.length = n) (hb : ∀ x ∈ t, 0 ≤ x ∧ x < (n : Int)) : Good (tabs.take i ++ [t] ++ tabs.drop i) n := by
  have m : ∀ u, u ∈ tabs.take i ++ [t] ++ tabs.drop i → u = t ∨ u ∈ tabs := fun u hu => by
    simp only [List.mem_append, List.mem_singleton] at hu
    rcases hu with (hu | hu) | hu
    · exact .inr (List.mem_of_mem_take hu)
    · exact .inl hu
    · exact .inr (List.mem_of_mem_drop hu)
  refine ⟨by simp; omega, by simp; omega, G.n1, G.n8, fun u hu => ?_, fun u hu y hy => ?_⟩
  · rcases m u hu with rfl | hu
    · exact hl
    · exact G.len u hu
  · rcases m u hu with rfl | hu
    · exact hb y hy
    · exact G.bnd u hu y hy
theorem Good.sub {tabs us : List (List Int)} {n : Nat} (G : Good tabs n) (h1 : 1 ≤ us.length) (h2 : us.length ≤ 4) (m : ∀ u ∈ us, u ∈ tabs) : Good us n :=
  ⟨h1, h2, G.n1, G.n8, fun u hu => G.len u (m u hu), fun u hu => G.bnd u (m u hu)⟩
theorem Good.wide {tabs : List (List Int)} {n : Nat} (G : Good tabs n) (h : n < 8) : Good (tabs.map fun t => t ++ [(n : Int)]) (n + 1) := by
  refine ⟨by simp; exact G.ne, by simp; exact G.few, by omega, by omega, fun u hu => ?_, fun u hu y hy => ?_⟩
  · obtain ⟨t, ht, rfl⟩ := List.mem_map.mp hu
    have := G.len t ht
    simp; omega
  · obtain ⟨t, ht, rfl⟩ := List.mem_map.mp hu
    rcases List.mem_append.mp hy with hy | hy
    · have := G.bnd t ht y hy
      omega
    · rw [List.mem_singleton.mp hy]
      omega
def sp__law_tuples (K : PySem.W.Frag) : Sp := fun vs H Q _ => ∃ (v : V) (tabs : List (List Int)), vs = [v] ∧ TabV K H v tabs ∧ tabs.length ≤ 100 ∧ ∀ t H', Same H H' → TupT K H' t tabs → Q t H'
def sp__law_tables (K : PySem.W.Frag) : Sp := fun vs H Q _ => ∃ (b : Addr) (n m : Nat), vs = [.ref b, .int n, .int m] ∧ Bx H b ∧ 1 ≤ n ∧ n ≤ 8 ∧ 1 ≤ m ∧ m ≤ 4 ∧ ∀ v tabs H', Sb b H H' → TabB b K H' v tabs → Good tabs n → Q v H'
def sp__law_turned (K : PySem.W.Frag) : Sp := fun vs H Q _ => ∃ (b : Addr) (v : V) (tabs : List (List Int)) (n : Nat), vs = [.ref b, v] ∧ Bx H b ∧ TabB b K H v tabs ∧ Good tabs n ∧ ∀ v' tabs' n' H', Sb b H H' → TabB b K H' v' tabs' → Good tabs' n' → Q v' H'
theorem ok__law_tuples {f : Addr} {fd : FuncData} (F : At K mg "_law_tuples" s__law_tuples [] [] f fd) (T : Tx K mg)  : Cl P w K mg base 1 "_law_tuples" (sp__law_tuples K) [] := by
  refine cl_of F sc__law_tuples (fun _ _ _ _ _ _ us hl => match us, hl with | [_], _ => rfl) (by walk_at "len") (fun cdv A outer s H vs Q E hr h => ?_)
  obtain ⟨v, tabs, rfl, ⟨a, rs, rfl, hs, hrows⟩, hz, k⟩ := h
  have hlen : rs.length = tabs.length := paired_len hrows
  refine ⟨_, (pss_one (ps_ret (pe_callTy (kTuple K) rfl T.b_tuple (by decide +kernel) (pa_cons (pe_lc (own := [("table", 1)]) (g := gName 1) (tt := tYes) rfl sc__law_tuples.nd  (kSeq K (pv 0)) (blkOk_by (by kernel_rfl)) (fun _ _ _ _ _ => (pg_name (i := 1) sc__law_tuples.nd rfl (Or.inl rfl))) (fun _ _ _ _ _ => pts_nil) (fun _ _ _ _ _ => (pe_callTy (kTuple K) rfl T.b_tuple (by decide +kernel) (pa_cons (pv 1) pa_nil)))) pa_nil)))), ?_⟩
  repeat walk_at "s"
  refine r_lc (r_iseqV hs rfl fun J Gd hG wk D hD => ?_)
  refine lc_map wk hD (by omega) hG (fun j y H => ∃ b t, y = .ref b ∧ tabs[j]? = some t ∧ SqT K H b (t.map V.int))
    (fun j y Ha Hb s ⟨b, t, e1, e2, e3⟩ => ⟨b, t, e1, e2, SqT.ext e3 s⟩) (fun j y Ha us zs hd ⟨b, t, e1, e2, e3⟩ => ⟨b, t, e1, e2, SqT.soft hd rfl e3⟩) ?_ walk_same ?_
  · rintro i x H' H'' hi s34 s34' _ ⟨rfl, hx⟩ N1 kN
    obtain ⟨b, t, rfl, ht, hb⟩ := hrows.get hx
    repeat walk_at "s"
    rcases hb.same s34 with hb | hb
    · refine r_tupL hb fun l hl => kN _ _ (same_upd hl) ⟨l, t, rfl, ht, SqT.of upd_same⟩
    · exact r_tupT hb (kN _ _ (Same.refl _) ⟨b, t, rfl, ht, hb⟩)
  · intro H' ys s34 hD' hy ha
    repeat walk_at "s"
    refine r_tupL (SqL.of hD') fun l hl => ?_
    refine k _ _ (s34.trans (same_upd hl)) ⟨l, ys, rfl, SqT.of upd_same, paired_of (by omega) fun j y e => ?_⟩
    obtain ⟨b, t, e1, e2, e3⟩ := ha j y e
    exact ⟨t, e2, b, e1, SqT.ext e3 (same_upd hl)⟩
theorem ok__law_tables {f : Addr} {fd : FuncData} (F : At K mg "_law_tables" s__law_tables [] [] f fd) (T : Tx K mg) (c__law_take : Cl P w K mg base 1 "_law_take" (sp__law_take K) []) : Cl P w K mg base 2 "_law_tables" (sp__law_tables K) [] := by
  refine cl_of F sc__law_tables (fun _ _ _ _ _ _ us hl => match us, hl with | [_, _, _], _ => rfl) (by walk_at "len") (fun cdv A outer s H vs Q E hr h => ?_)
  obtain ⟨b, n, m, rfl, hb, n1, n8, m1, m4, k⟩ := h
  refine ⟨_, (pss_one (ps_ret (pe_lc (own := [("deed", 3)]) (g := gName 3) (tt := tYes) rfl sc__law_tables.nd  (pi_range1 rfl T.b_range (pa_cons (pv 2) pa_nil)) (blkOk_by (by kernel_rfl)) (fun _ _ _ _ _ => (pg_name (i := 3) sc__law_tables.nd rfl (Or.inl rfl))) (fun _ _ _ _ _ => pts_nil) (fun _ _ _ _ _ => (pe_lc (own := [("state", 4)]) (g := gName 4) (tt := tYes) rfl sc__law_tables.nd  (pi_range1 rfl T.b_range (pa_cons (pv 1) pa_nil)) (blkOk_by (by kernel_rfl)) (fun _ _ _ _ _ => (pg_name (i := 4) sc__law_tables.nd rfl (Or.inl rfl))) (fun _ _ _ _ _ => pts_nil) (fun _ _ _ _ _ => (pcl c__law_take hr (by decide) rfl (pa_cons (pv 0) (pa_cons (pv 1) pa_nil))))))))), ?_⟩
  repeat walk_at "s"
  refine r_lc (r_rng1 ?_)
  repeat walk_at "s"
  refine ⟨m, rfl, by omega, by omega, fun D hD => ?_⟩
  have em : (m : Int).toNat = m := rfl
  rw [em]
  refine lc_rows (fun _ t => t.length = n ∧ ∀ x ∈ t, 0 ≤ x ∧ x < (n : Int)) [] (by simp) walk_range hb hD (by omega) (fun _ _ => trivial) ?_ ?_
  · rintro i x H' H'' hi s1 hb1 ⟨rfl, rfl⟩ N1 kN
    repeat walk_at "s"
    refine r_lc (r_rng1 ?_)
    repeat walk_at "s"
    refine ⟨n, rfl, by omega, by omega, fun D2 hD2 => ?_⟩
    have en : (n : Int).toNat = n := rfl
    rw [en]
    refine lc_ints (fun x => 0 ≤ x ∧ x < (n : Int)) walk_range hb1 hD2 (by omega) (fun _ _ => trivial) ?_ ?_
    · rintro i2 x2 H3 H4 hi2 s2 hb2 ⟨rfl, rfl⟩ N2 kN2
      repeat walk_at "s"
      refine ⟨b, n, rfl, hb2, by omega, by omega, fun r H5 s5 hr hr2 => kN2 _ _ s5 ⟨hr, hr2⟩⟩
    · intro H3 ns s2 hb2 hD3 hl hp
      exact kN _ _ _ s2 hD2 hD3 ⟨hl, hp⟩
  · intro H' rs ts s1 hb1 hD1 hw _ hl hR
    refine k _ ts H' s1 (TabB.of hw (by simp) (hb.ne hD) hD1) ⟨by omega, by omega, n1, n8, fun t ht => ?_, fun t ht => ?_⟩
    · obtain ⟨i, hi⟩ := List.getElem?_of_mem ht
      exact (hR i t hi).1
    · obtain ⟨i, hi⟩ := List.getElem?_of_mem ht
      exact (hR i t hi).2
theorem ok__law_turned {f : Addr} {fd : FuncData} (F : At K mg "_law_turned" s__law_turned [] [] f fd) (T : Tx K mg) (c__law_take : Cl P w K mg base 1 "_law_take" (sp__law_take K) []) : Cl P w K mg base 2 "_law_turned" (sp__law_turned K) [] := by
  refine cl_of F sc__law_turned (fun _ _ _ _ _ _ us hl => match us, hl with | [_, _], _ => rfl) (by walk_at "len") (fun cdv A outer s H vs Q E hr h => ?_)
  obtain ⟨b, v, tabs, n, rfl, hb, ⟨a, rs, rfl, na, hs, hrows⟩, G, k⟩ := h
  have g1 := G.ne
  have g4 := G.few
  have g8 := G.n8
  have gn := G.n1
  have hlen : rs.length = tabs.length := paired_len hrows
  refine ⟨_, (pss_cons (ps_asg (pe_tup (pa_cons (pe_lc (own := [("table", 8)]) (g := gName 8) (tt := tYes) rfl sc__law_turned.nd  (kSeq K (pv 1)) (blkOk_by (by kernel_rfl)) (fun _ _ _ _ _ => (pg_name (i := 8) sc__law_turned.nd rfl (Or.inl rfl))) (fun _ _ _ _ _ => pts_nil) (fun _ _ _ _ _ => (pe_callTy (kList K) rfl T.b_list (by decide +kernel) (pa_cons (pv 8) pa_nil)))) (pa_cons (pe_callB (kLen K) rfl T.b_len (by decide +kernel) (pa_cons (pe_ix (kIx K) (pv 1) pe_int (fun _ _ => rfl)) pa_nil)) (pa_cons (pcl c__law_take hr (by decide) rfl (pa_cons (pv 0) (pa_cons pe_int pa_nil))) pa_nil)))) (pg_tup rfl (pgs_cons (pg_name (i := 2) sc__law_turned.nd rfl (Or.inl rfl)) (pgs_cons (pg_name (i := 3) sc__law_turned.nd rfl (Or.inr rfl)) (pgs_cons (pg_name (i := 4) sc__law_turned.nd rfl (Or.inl rfl)) pgs_nil)))))
      (pss_cons (ps_set (i := 5) sc__law_turned.nd rfl (Or.inl rfl) (pcl c__law_take hr (by decide) rfl (pa_cons (pv 0) (pa_cons (pe_callB (kLen K) rfl T.b_len (by decide +kernel) (pa_cons (pv 2) pa_nil)) pa_nil))))
      (pss_cons (ps_set (i := 6) sc__law_turned.nd rfl (Or.inl rfl) (pe_ix (kIx K) (pv 2) (pv 5) (fun _ _ => rfl)))
      (pss_cons (ps_if (PW.pt (pw_and (pt_cmpR (kEq K hr) (pv 4) pe_int (nomark _)) (pw_and1 (pt_cmpR op_gt (pv 3) pe_int (nomark _))))) (pss_cons (ps_set (i := 7) sc__law_turned.nd rfl (Or.inl rfl) (pcl c__law_take hr (by decide) rfl (pa_cons (pv 0) (pa_cons (pv 3) pa_nil))))
      (pss_one (ps_asg (pe_op op_mod (pe_callTy call_intU rfl T.b_int (by decide +kernel) (pa_cons (pe_op (kAdd K) (pe_op (kAdd K) (pe_ix (kIx K) (pv 6) (pv 7) (fun _ _ => rfl)) pe_int) (pcl c__law_take hr (by decide) rfl (pa_cons (pv 0) (pa_cons (pe_op op_sub (pv 3) pe_int) pa_nil)))) pa_nil)) (pv 3)) (pg_sub (pv 6) (pv 7) set_list)))) (pss_one (ps_if (PW.pt (pw_and (pt_cmpR (kEq K hr) (pv 4) pe_int (nomark _)) (pw_and1 (pt_cmpR op_lt (pe_callB (kLen K) rfl T.b_len (by decide +kernel) (pa_cons (pv 2) pa_nil)) pe_int (nomark _))))) (pss_one (ps_expr (pe_bm PySem.F.plainAttrs_list PySem.F.slot_list_insert PySem.F.type_list_insert mt_ins (pv 2) (pa_cons (pcl c__law_take hr (by decide) rfl (pa_cons (pv 0) (pa_cons (pe_op (kAdd K) (pe_callB (kLen K) rfl T.b_len (by decide +kernel) (pa_cons (pv 2) pa_nil)) pe_int) pa_nil))) (pa_cons (pe_lc (own := [("state", 9)]) (g := gName 9) (tt := tYes) rfl sc__law_turned.nd  (pi_range1 rfl T.b_range (pa_cons (pv 3) pa_nil)) (blkOk_by (by kernel_rfl)) (fun _ _ _ _ _ => (pg_name (i := 9) sc__law_turned.nd rfl (Or.inl rfl))) (fun _ _ _ _ _ => pts_nil) (fun _ _ _ _ _ => (pcl c__law_take hr (by decide) rfl (pa_cons (pv 0) (pa_cons (pv 3) pa_nil))))) pa_nil))))) (pss_one (ps_if (PW.pt (pw_and (pt_cmpR (kEq K hr) (pv 4) pe_int (nomark _)) (pw_and1 (pt_cmpR op_gt (pe_callB (kLen K) rfl T.b_len (by decide +kernel) (pa_cons (pv 2) pa_nil)) pe_int (nomark _))))) (pss_one (ps_expr (pe_bm PySem.F.plainAttrs_list PySem.F.slot_list_pop PySem.F.type_list_pop mt_popAt (pv 2) (pa_cons (pv 5) pa_nil)))) (pss_one (ps_if (pt_cmpR (kEq K hr) (pv 4) pe_int (nomark _)) (pss_one (ps_set (i := 2) sc__law_turned.nd rfl (Or.inl rfl) (pe_op (kAdd K) (pe_slice (kSl K) (pv 2) (po_some pe_int) po_none) (pe_slice (kSl K) (pv 2) po_none (po_some pe_int))))) (pss_one (ps_if (PW.pt (pw_and (pt_cmpR (kEq K hr) (pv 4) pe_int (nomark _)) (pw_and1 (pt_cmpR op_lt (pv 3) pe_int (nomark _))))) (pss_one (ps_setLc (i := 2) (own := [("table", 8)]) (g := gName 8) (tt := tYes) rfl sc__law_turned.nd rfl rfl (sw_true rfl rfl rfl (by decide +kernel)) (kSeq K (pv 2)) (blkOk_by (by kernel_rfl)) (fun _ _ _ _ _ => (pg_name (i := 8) sc__law_turned.nd rfl (Or.inl rfl))) (fun _ _ _ _ _ => pts_nil) (fun _ _ _ _ _ => (pe_op (kAdd K) (pv 8) (pe_lst (pa_cons (pv 3) pa_nil)))))) pss_nil)))))))))
      (pss_one (ps_ret (pv 2))))))), ?_⟩
  repeat walk_at "s"
  refine r_lc (r_iseqB hb na hs rfl fun J Gd hG wk D hD => ?_)
  refine lc_rows (fun i t => tabs[i]? = some t) [] (by simp) wk hb hD (by omega) hG ?_ ?_
  · rintro i x H' H'' hi s1 hb1 ⟨rfl, hx⟩ N1 kN
    obtain ⟨t, ht, c, rfl, nc, hc⟩ := paired_at hrows hx
    repeat walk_at "s"
    exact r_list (Sq.sb s1 hb nc hc) fun l hl => kN l t _ (Sb.of (same_upd hl)) hl upd_same ht
  intro H1 fs ts s1 hb1 hD1 hw hfr hl hR
  have e : ts = tabs := by
    refine List.ext_getElem? fun j => ?_
    cases e : ts[j]? with
    | none =>
      have := List.getElem?_eq_none_iff.mp e
      rw [List.getElem?_eq_none (by omega)]
    | some t => rw [hR j t e]
  subst e
  have hs1 := Sq.sb s1 hb na hs
  obtain ⟨t0, ht0⟩ : ∃ t0, ts[0]? = some t0 := ⟨_, List.getElem?_eq_getElem (by omega)⟩
  obtain ⟨r0, hr0⟩ : ∃ r0, rs[0]? = some r0 := ⟨_, List.getElem?_eq_getElem (by omega)⟩
  obtain ⟨t0', e0, c0, rfl, n0, hc0⟩ := paired_at hrows hr0
  rw [ht0] at e0
  cases e0
  have hl0 : t0.length = n := G.len t0 (List.mem_of_getElem? ht0)
  have hlf : fs.length = ts.length := hw.len
  repeat walk_at "s"
  refine r_ixQ hs1 (atI_nat hr0) ?_
  repeat walk_at "s"
  refine r_lenQ (Sq.sb s1 hb n0 hc0) ?_
  repeat walk_at "s"
  rw [List.length_map, hl0]
  refine ⟨b, 6, rfl, hb1, by decide, by decide, fun way H2 s2 w0 w6 => ?_⟩
  have hb2 := s2.bx hb1
  repeat walk_at "s"
  refine ⟨szl (by simp), fun T hT => ?_⟩
  have s3 := (Sb.refl H2).upd (o := .tup [.ref D, .int n, .int way]) hb2 hT
  refine r_gtrip upd_same ?_
  revert s3
  generalize upd H2 T _ = H3
  intro s3
  have nD := hb.ne hD
  have hb3 := s3.bx hb2
  have hD3 := (s2.trans s3).kp _ _ nD hD1
  repeat walk_at "s"
  refine r_lenL (SqL.of hD3) ?_
  repeat walk_at "s"
  refine ⟨b, fs.length, rfl, hb3, by omega, by omega, fun at_ H4 s4 a0 a1 => ?_⟩
  have hb4 := s4.bx hb3
  have s24 := (s2.trans s3).trans s4
  have hw4 := hw.sb s24 (by simp)
  have hD4 := s24.kp _ _ nD hD1
  have s04 := s1.trans s24
  obtain ⟨at', rfl⟩ : ∃ j : Nat, at_ = (j : Int) := ⟨at_.toNat, by omega⟩
  obtain ⟨t, ht⟩ : ∃ t, ts[at']? = some t := ⟨_, List.getElem?_eq_getElem (by omega)⟩
  obtain ⟨c, hc, nc, hcH⟩ := hw4.get ht
  have hlt := G.len t (List.mem_of_getElem? ht)
  have hcf := hfr c (List.mem_of_getElem? hc)
  repeat walk_at "s"
  refine r_ixL (SqL.of hD4) (atI_nat hc) ?_
  repeat walk_at "s"
  have done : ∀ (v' : V) (tabs' : List (List Int)) (n' : Nat) (H' : Hp), Sb b H4 H' → TabB b K H' v' tabs' → Good tabs' n' → Q v' H' := fun v' tabs' n' H' s => k v' tabs' n' H' (s04.trans s)
  by_cases hw0 : way = 0 ∧ 1 < (n : Int)
  · rw [decide_eq_true hw0.1]
    repeat walk_at "s"
    rw [decide_eq_true hw0.2]
    repeat walk_at "s"
    have hn := hw0.2
    refine ⟨b, n, rfl, hb4, by omega, by omega, fun place H5 s5 p0 p1 => ?_⟩
    have hb5 := s5.bx hb4
    obtain ⟨p, rfl⟩ : ∃ j : Nat, place = (j : Int) := ⟨place.toNat, by omega⟩
    obtain ⟨x, hx⟩ : ∃ x, t[p]? = some x := ⟨_, List.getElem?_eq_getElem (by omega)⟩
    have hc5 := s5.kp _ _ (fun e => nc (by simp [e])) hcH
    repeat walk_at "s"
    refine r_ixL (SqL.of hc5) (v := V.int x) (atI_nat (by rw [List.getElem?_map, hx]; rfl)) ?_
    repeat walk_at "s"
    refine ⟨b, n - 1, rfl, hb5, by omega, by omega, fun r H6 s6 r0 r1 => ?_⟩
    have hc6 := s6.kp _ _ (fun e => nc (by simp [e])) hc5
    have s46 := s5.trans s6
    repeat walk_at "s"
    refine r_I (by omega) ?_
    repeat walk_at "s"
    refine r_setL hc6 (j := p) (ixN_nat (by simp; omega)) ?_
    rw [← List.map_set]
    repeat walk_at "s"
    refine k _ (ts.set at' (t.set p ((x + 1 + r) % (n : Int)))) n _ ((s04.trans s46).upd hb hcf) ?_ (G.set ht (Int.emod_nonneg _ (by omega)) (Int.emod_lt_of_pos _ (by omega)))
    have nDc : D ≠ c := fun e => nc (by simp [← e])
    exact TabB.of ((hw4.sb s46 (by simp)).set hc) (by simp) nD (by rw [upd_ne nDc]; exact s46.kp _ _ nD hD4)
  refine r_share (fun rest hc => ?_) ?_
  · repeat walk_at "s"
    rw [decide_eq_false (fun z => hw0 ⟨hc, z⟩)]
    exact r_iteF rest
  repeat walk_at "s"
  by_cases hw1 : way = 1 ∧ fs.length < 4
  · rw [decide_eq_true hw1.1]
    repeat walk_at "s"
    refine r_lenL (SqL.of hD4) ?_
    repeat walk_at "s"
    rw [decide_eq_true (by omega)]
    repeat walk_at "s"
    have hn := hw1.2
    refine r_tyL hD4 ?_
    repeat walk_at "s"
    refine r_lenL (SqL.of hD4) ?_
    repeat walk_at "s"
    refine ⟨b, fs.length + 1, rfl, hb4, by omega, by omega, fun place H5 s5 p0 p1 => ?_⟩
    have hb5 := s5.bx hb4
    obtain ⟨p, rfl⟩ : ∃ j : Nat, place = (j : Int) := ⟨place.toNat, by omega⟩
    repeat walk_at "s"
    refine r_lc (r_rng1 ?_)
    repeat walk_at "s"
    refine ⟨n, rfl, by omega, by omega, fun D2 hD2 => ?_⟩
    have en : (n : Int).toNat = n := rfl
    rw [en]
    refine lc_ints (fun x => 0 ≤ x ∧ x < (n : Int)) walk_range hb5 hD2 (by omega) (fun _ _ => trivial) ?_ ?_
    · rintro i2 x2 H6 H7 hi2 s6 hb6 ⟨rfl, rfl⟩ N2 kN2
      repeat walk_at "s"
      exact ⟨b, n, rfl, hb6, by omega, by omega, fun r H8 s8 hr hr2 => kN2 _ _ s8 ⟨hr, hr2⟩⟩
    · intro H6 ns s6 hb6 hD6 hln hp
      have s46 := s5.trans s6
      have hDD : H6 D = some (.lst fs) := s46.kp _ _ nD hD4
      have nD2 : D2 ≠ D := fun e => by
        rw [e, s5.kp _ _ nD hD4] at hD2
        cases hD2
      repeat walk_at "s"
      refine r_ins hDD (by omega) (by omega) (by omega) ?_
      repeat walk_at "s"
      have hw6 := (hw4.sb s46 (by simp)).upd (d := D) (o := .lst (fs.take p ++ [.ref D2] ++ fs.drop p)) (by simp)
      refine k _ (ts.take p ++ [ns] ++ ts.drop p) n _ ((s04.trans s46).upd hb hD) ⟨D, _, rfl, nD, .inl (SqL.of upd_same), ?_⟩ (G.ins (by omega) hln hp)
      have mp := Paired.mapP (G := fun (r : V) (t : List Int) => ∃ c, r = .ref c ∧ c ≠ b ∧ Sq K (upd H6 D (.lst (fs.take p ++ [.ref D2] ++ fs.drop p))) c (t.map V.int)) hw6.at_ fun _ _ ⟨c, e, n, q⟩ => ⟨c, e, fun z => n (by simp [z]), .inl (SqL.of q)⟩
      exact Paired.appP (Paired.appP (Paired.takeP p mp) (.cons ⟨D2, rfl, hb5.ne hD2, .inl (SqL.of (by rw [upd_ne nD2]; exact hD6))⟩ .nil)) (Paired.dropP p mp)
  refine r_share (fun rest hc => ?_) ?_
  · repeat walk_at "s"
    refine r_lenL (SqL.of hD4) ?_
    repeat walk_at "s"
    rw [decide_eq_false (fun z => hw1 ⟨hc, by omega⟩)]
    exact r_iteF rest
  repeat walk_at "s"
  by_cases hw2 : way = 2 ∧ 1 < fs.length
  · rw [decide_eq_true hw2.1]
    repeat walk_at "s"
    refine r_lenL (SqL.of hD4) ?_
    repeat walk_at "s"
    rw [decide_eq_true (by omega)]
    repeat walk_at "s"
    refine r_tyL hD4 ?_
    repeat walk_at "s"
    refine r_popAt hD4 (by omega) hc ?_
    repeat walk_at "s"
    have hn := hw2.2
    have hw6 := hw4.upd (d := D) (o := .lst (fs.eraseIdx at')) (by simp)
    have mp := Paired.mapP (G := fun (r : V) (t : List Int) => ∃ c, r = .ref c ∧ c ≠ b ∧ Sq K (upd H4 D (.lst (fs.eraseIdx at'))) c (t.map V.int)) hw6.at_ fun _ _ ⟨c, e, n, q⟩ => ⟨c, e, fun z => n (by simp [z]), .inl (SqL.of q)⟩
    refine k _ (ts.eraseIdx at') n _ (s04.upd hb hD) ⟨D, _, rfl, nD, .inl (SqL.of upd_same), ?_⟩ (G.sub ?_ ?_ fun u hu => ?_)
    · have e := Paired.appP (Paired.takeP at' mp) (Paired.dropP (at' + 1) mp)
      rw [← List.eraseIdx_eq_take_drop_succ, ← List.eraseIdx_eq_take_drop_succ] at e
      exact e
    · rw [List.length_eraseIdx_of_lt (by omega)]; omega
    · rw [List.length_eraseIdx_of_lt (by omega)]; omega
    · exact List.mem_of_mem_eraseIdx hu
  refine r_share (fun rest hc => ?_) ?_
  · repeat walk_at "s"
    refine r_lenL (SqL.of hD4) ?_
    repeat walk_at "s"
    rw [decide_eq_false (fun z => hw2 ⟨hc, by omega⟩)]
    exact r_iteF rest
  have mp4 := Paired.mapP (G := fun (r : V) (t : List Int) => ∃ c, r = .ref c ∧ c ≠ b ∧ Sq K H4 c (t.map V.int)) hw4.at_ fun _ _ ⟨c, e, n, q⟩ => ⟨c, e, fun z => n (by simp [z]), .inl (SqL.of q)⟩
  repeat walk_at "s"
  refine r_dec (fun hw3 => ?_) (fun hw3 => ?_)
  · repeat walk_at "s"
    refine r_slL (SqL.of hD4) fun p1 hp1 => ?_
    rw [show (some (1 : Int)) = some ((1 : Nat) : Int) from rfl, cutV_from]
    repeat walk_at "s"
    have sa := (Sb.refl H4).upd (o := .lst (fs.drop 1)) hb4 hp1
    refine r_slL (SqL.of (sa.kp _ _ nD hD4)) fun p2 hp2 => ?_
    rw [show (some (1 : Int)) = some ((1 : Nat) : Int) from rfl, cutV_to]
    have sb := (Sb.refl _).upd (o := .lst (fs.take 1)) (sa.bx hb4) hp2
    have n12 : p1 ≠ p2 := fun e => by rw [← e, upd_same] at hp2; cases hp2
    refine r_addL (by rw [upd_ne n12]; exact upd_same) upd_same (szl (by simp; omega)) fun p3 hp3 => ?_
    have sc := (Sb.refl _).upd (o := .lst (fs.drop 1 ++ fs.take 1)) ((sa.trans sb).bx hb4) hp3
    have s4c := (sa.trans sb).trans sc
    repeat walk_at "s"
    have mp := Paired.mapP (G := fun (r : V) (t : List Int) => ∃ c, r = .ref c ∧ c ≠ b ∧ Sq K _ c (t.map V.int)) mp4 fun _ _ ⟨c, e, n, q⟩ => ⟨c, e, n, Sq.sb s4c hb4 n q⟩
    refine k _ (ts.drop 1 ++ ts.take 1) n _ (s04.trans s4c) ⟨p3, _, rfl, ((sa.trans sb).bx hb4).ne hp3, .inl (SqL.of upd_same), Paired.appP (Paired.dropP 1 mp) (Paired.takeP 1 mp)⟩ (G.sub ?_ ?_ fun u hu => ?_)
    · simp; omega
    · simp; omega
    · rcases List.mem_append.mp hu with hu | hu
      · exact List.mem_of_mem_drop hu
      · exact List.mem_of_mem_take hu
  repeat walk_at "s"
  by_cases hw5 : way = 4 ∧ (n : Int) < 8
  · rw [decide_eq_true hw5.1]
    repeat walk_at "s"
    rw [decide_eq_true hw5.2]
    repeat walk_at "s"
    refine r_lc (r_iseqB hb4 nD (.inl (SqL.of hD4)) rfl fun J Gd hG wk D2 hD2 => ?_)
    refine lc_rows (fun i t => ∃ t0, ts[i]? = some t0 ∧ t = t0 ++ [(n : Int)]) [] (by simp) wk hb4 hD2 (by omega) hG ?_ ?_
    · rintro i x H' H'' hi s5 hb5 ⟨rfl, hx⟩ N1 kN
      obtain ⟨t1, ht1, c1, rfl, nc1, hc1⟩ := paired_at hw4.at_ hx
      have hc1' := s5.kp _ _ (fun e => nc1 (by simp [e])) hc1
      have hlt1 := G.len t1 (List.mem_of_getElem? ht1)
      repeat walk_at "s"
      refine ⟨szl (by simp), fun q hq => ?_⟩
      have sq := (Sb.refl _).upd (o := .lst [.int (n : Int)]) hb5 hq
      have hc1q := sq.kp _ _ (fun e => nc1 (by simp [e])) hc1'
      refine r_addL hc1q upd_same (szl (by simp; omega)) fun l hl => ?_
      exact kN l (t1 ++ [(n : Int)]) _ (sq.trans ((Sb.refl _).upd (sq.bx hb5) hl)) (sq.fresh hb5 hl) (by rw [upd_same]; simp) ⟨t1, ht1, rfl⟩
    · intro H5 rs5 ts5 s5 hb5 hD5 hw5' _ hl5 hR5
      repeat walk_at "s"
      have e : ts5 = ts.map fun t => t ++ [(n : Int)] := by
        refine List.ext_getElem? fun j => ?_
        rw [List.getElem?_map]
        cases e : ts5[j]? with
        | none =>
          have := List.getElem?_eq_none_iff.mp e
          rw [List.getElem?_eq_none (by omega)]; rfl
        | some t =>
          obtain ⟨t0, e1, e2⟩ := hR5 j t e
          rw [e1, e2]; rfl
      refine k _ ts5 (n + 1) _ (s04.trans s5) (TabB.of hw5' (by simp) (hb4.ne hD2) hD5) ?_
      rw [e]
      exact G.wide (by omega)
  have last : TabB b K H4 (.ref D) ts := TabB.of hw4 (by simp) nD hD4
  refine r_share (fun rest hc => ?_) ?_
  · repeat walk_at "s"
    rw [decide_eq_false (fun z => hw5 ⟨hc, z⟩)]
    exact r_iteF rest
  repeat walk_at "s"
  exact done _ _ _ _ (Sb.refl _) last G
end
end P45

namespace P45
open PySem PySem.Spec PyProof.Rows L2 Pg
local macro_rules | `(tactic| walk_at "s") => `(tactic| first
  | ((with_reducible refine r_var (v := ?v) ?h ?q); case h => rfl)
  | (with_reducible refine r_c ?_)
  | (with_reducible refine r_op ?_)
  | (with_reducible refine r_un ?_)
  | (with_reducible refine r_I0 ?_)
  | (with_reducible refine r_U ?_)
  | (with_reducible refine r_addI ?_)
  | (with_reducible refine r_eqI ?_)
  | (with_reducible refine r_neI ?_)
  | (with_reducible refine r_eqT ?_)
  | (with_reducible refine r_neT ?_)
  | (with_reducible refine r_seq ?_)
  | (with_reducible refine r_asg ?_)
  | ((with_reducible refine r_name (σ' := ?s) ?h ?q); case h => (simp only [List.set_cons_zero, List.set_cons_succ, L2.start, List.map_cons, List.map_nil, List.length_cons, List.length_nil, List.cons_append, List.nil_append, List.replicate_succ, List.replicate_zero, Nat.reduceAdd, Nat.reduceSub]; rfl))
  | (with_reducible refine r_cons ?_)
  | (with_reducible refine r_nil ?_)
  | (with_reducible refine r_call ?_)
  | (with_reducible refine r_cb ?_)
  | (with_reducible refine r_ret ?_)
  | (with_reducible refine r_retN ?_)
  | (with_reducible refine r_ifs ?_)
  | (with_reducible refine r_if ?_)
  | (with_reducible refine r_tt ?_)
  | (with_reducible refine r_tb ?_)
  | (with_reducible refine r_tand ?_)
  | (with_reducible refine r_tor ?_)
  | (with_reducible refine r_tnot ?_)
  | (with_reducible refine r_and ?_)
  | (with_reducible refine r_or ?_)
  | (with_reducible refine r_not ?_)
  | (with_reducible refine r_chain ?_)
  | (with_reducible refine r_bl ?_)
  | (with_reducible refine r_int ?_)
  | (with_reducible refine r_iteT ?_)
  | (with_reducible refine r_iteF ?_)
  | (with_reducible refine r_inT ?_)
  | (with_reducible refine r_inF ?_)
  | (with_reducible refine r_intc ?_)
  | (with_reducible refine r_abs ?_)
  | (with_reducible refine r_lst ?_)
  | (with_reducible refine r_tup ?_)
  | (with_reducible refine r_sl ?_)
  | (with_reducible refine r_nopart ?_)
  | (with_reducible refine r_part ?_)
  | (with_reducible refine r_bm ?_)
  | (with_reducible refine r_bm0 ?_)
  | (with_reducible refine r_m1 ?_)
  | (with_reducible refine r_gsub ?_)
  | (with_reducible refine r_drop ?_)
  | (with_reducible refine r_next ?_)
  | (with_reducible refine r_par ?_)
  | (with_reducible refine r_par3 ?_)
  | (with_reducible refine r_par2 ?_)
  | (with_reducible refine r_fld ?_)
  | (with_reducible refine r_sfld ?_)
  | (with_reducible refine r_make ?_)
  | (with_reducible refine r_strI ?_)
  | (with_reducible refine r_min ?_)
  | (with_reducible refine r_max ?_))
local macro_rules | `(tactic| walk_at "n") => `(tactic| first
  | ((with_reducible refine r_var (v := ?v) ?h ?q); case h => rfl)
  | (with_reducible refine r_c ?_)
  | (with_reducible refine r_op ?_)
  | (with_reducible refine r_un ?_)
  | (with_reducible refine r_I0 ?_)
  | (with_reducible refine r_U ?_)
  | (with_reducible refine r_addI ?_)
  | (with_reducible refine r_eqI ?_)
  | (with_reducible refine r_neI ?_)
  | (with_reducible refine r_eqT ?_)
  | (with_reducible refine r_neT ?_)
  | (with_reducible refine r_asg ?_)
  | ((with_reducible refine r_name (σ' := ?s) ?h ?q); case h => (simp only [List.set_cons_zero, List.set_cons_succ, L2.start, List.map_cons, List.map_nil, List.length_cons, List.length_nil, List.cons_append, List.nil_append, List.replicate_succ, List.replicate_zero, Nat.reduceAdd, Nat.reduceSub]; rfl))
  | (with_reducible refine r_cons ?_)
  | (with_reducible refine r_nil ?_)
  | (with_reducible refine r_call ?_)
  | (with_reducible refine r_cb ?_)
  | (with_reducible refine r_ret ?_)
  | (with_reducible refine r_retN ?_)
  | (with_reducible refine r_ifs ?_)
  | (with_reducible refine r_if ?_)
  | (with_reducible refine r_tt ?_)
  | (with_reducible refine r_tb ?_)
  | (with_reducible refine r_tand ?_)
  | (with_reducible refine r_tor ?_)
  | (with_reducible refine r_tnot ?_)
  | (with_reducible refine r_and ?_)
  | (with_reducible refine r_or ?_)
  | (with_reducible refine r_not ?_)
  | (with_reducible refine r_chain ?_)
  | (with_reducible refine r_bl ?_)
  | (with_reducible refine r_int ?_)
  | (with_reducible refine r_iteT ?_)
  | (with_reducible refine r_iteF ?_)
  | (with_reducible refine r_inT ?_)
  | (with_reducible refine r_inF ?_)
  | (with_reducible refine r_intc ?_)
  | (with_reducible refine r_abs ?_)
  | (with_reducible refine r_lst ?_)
  | (with_reducible refine r_tup ?_)
  | (with_reducible refine r_sl ?_)
  | (with_reducible refine r_nopart ?_)
  | (with_reducible refine r_part ?_)
  | (with_reducible refine r_bm ?_)
  | (with_reducible refine r_bm0 ?_)
  | (with_reducible refine r_m1 ?_)
  | (with_reducible refine r_gsub ?_)
  | (with_reducible refine r_drop ?_)
  | (with_reducible refine r_next ?_)
  | (with_reducible refine r_par ?_)
  | (with_reducible refine r_par3 ?_)
  | (with_reducible refine r_par2 ?_)
  | (with_reducible refine r_fld ?_)
  | (with_reducible refine r_sfld ?_)
  | (with_reducible refine r_make ?_)
  | (with_reducible refine r_strI ?_)
  | (with_reducible refine r_min ?_)
  | (with_reducible refine r_max ?_))
local macro_rules | `(tactic| walk_at "len") => `(tactic| (intro _ _ _ _ h; first | (obtain ⟨e, _⟩ := h; subst e; rfl) | (obtain ⟨_, e, _⟩ := h; subst e; rfl) | (obtain ⟨_, _, e, _⟩ := h; subst e; rfl) | (obtain ⟨_, _, _, e, _⟩ := h; subst e; rfl) | (obtain ⟨_, _, _, _, e, _⟩ := h; subst e; rfl) | (obtain ⟨_, _, _, _, _, e, _⟩ := h; subst e; rfl) | (obtain ⟨_, _, _, _, _, _, e, _⟩ := h; subst e; rfl) | (obtain ⟨_, _, _, _, _, _, _, e, _⟩ := h; subst e; rfl) | (obtain ⟨_, _, _, _, _, _, _, _, e, _⟩ := h; subst e; rfl) | (obtain ⟨_, _, _, _, _, _, _, _, _, e, _⟩ := h; subst e; rfl) | (obtain ⟨_, _, _, _, _, _, _, _, _, _, e, _⟩ := h; subst e; rfl) | (obtain ⟨_, _, _, _, _, _, _, _, _, _, _, e, _⟩ := h; subst e; rfl)))

section
variable {P : Program} {w : World} {K : PySem.W.Frag} {mg : Str → Option Value} {base : Heap}
abbrev spM (K : PySem.W.Frag) : Sp := sp_Machine___eq__ K
abbrev spL (K : PySem.W.Frag) : Sp := sp_Link___eq__ K
theorem LinkAt.ins {H : Hp} {p m : Addr} {a : Nums} {tabs : List (List Int)} {n : Nat} (h : LinkAt K H p m a tabs n) : ∃ dx fs, H p = some (.ins (cL K) dx fs) := by
  obtain ⟨g, q, dx, e⟩ := h
  exact ⟨dx, _, e⟩
section
variable {H : Hp} {Q : VK} {o1 o2 m1 m2 : Addr} {a1 a2 : Nums} {t1 t2 : List (List Int)} {n1 n2 : Nat}
theorem eqM (T : Tx K mg) (h1 : MachAt K H o1 t1 n1) (h2 : MachAt K H o2 t2 n2) (q : Q (.bl (decide (t1 = t2))) H) : rOwnE K (cM K) (spM K) (.ref o1) (.ref o2) H Q := by
  obtain ⟨d1, f1, i1⟩ := h1.ins
  obtain ⟨d2, f2, i2⟩ := h2.ins
  exact ⟨o1, d1, f1, _, rfl, i1, ty_ins i2 T.i_Machine, notFirst_self, o1, .ref o2, t1, n1, rfl, h1, .inl ⟨o2, t2, n2, rfl, h2, q⟩⟩
theorem neM (T : Tx K mg) (h1 : MachAt K H o1 t1 n1) (h2 : MachAt K H o2 t2 n2) (q : Q (.bl (!decide (t1 = t2))) H) : rOwnN K (cM K) (spM K) (.ref o1) (.ref o2) H Q := by
  obtain ⟨d1, f1, i1⟩ := h1.ins
  obtain ⟨d2, f2, i2⟩ := h2.ins
  exact ⟨o1, d1, f1, _, rfl, i1, ty_ins i2 T.i_Machine, notFirst_self, o1, .ref o2, t1, n1, rfl, h1, .inl ⟨o2, t2, n2, rfl, h2, _, rfl, q⟩⟩
theorem eqMo (h1 : MachAt K H o1 t1 n1) {y : V} {tb : Value} (ty : TyX K H y tb) (nf : PySem.W.notFirst K (cM K) tb = true) (no : PySem.W.kitOne K tb (.ref (cM K)) = some false) (q : Q (.bl false) H) : rOwnE K (cM K) (spM K) (.ref o1) y H Q := by
  obtain ⟨d1, f1, i1⟩ := h1.ins
  exact ⟨o1, d1, f1, _, rfl, i1, ty, nf, o1, y, t1, n1, rfl, h1, .inr ⟨⟨tb, ty, no⟩, q⟩⟩
theorem neMo (h1 : MachAt K H o1 t1 n1) {y : V} {tb : Value} (ty : TyX K H y tb) (nf : PySem.W.notFirst K (cM K) tb = true) (no : PySem.W.kitOne K tb (.ref (cM K)) = some false) (q : Q (.bl true) H) : rOwnN K (cM K) (spM K) (.ref o1) y H Q := by
  obtain ⟨d1, f1, i1⟩ := h1.ins
  exact ⟨o1, d1, f1, _, rfl, i1, ty, nf, o1, y, t1, n1, rfl, h1, .inr ⟨⟨tb, ty, no⟩, _, rfl, q⟩⟩
theorem eqL (T : Tx K mg) (h1 : LinkAt K H o1 m1 a1 t1 n1) (h2 : LinkAt K H o2 m2 a2 t2 n2) (q : Q (.bl (decide (t1 = t2 ∧ a1 = a2))) H) : rOwnE K (cL K) (spL K) (.ref o1) (.ref o2) H Q := by
  obtain ⟨d1, f1, i1⟩ := h1.ins
  obtain ⟨d2, f2, i2⟩ := h2.ins
  exact ⟨o1, d1, f1, _, rfl, i1, ty_ins i2 T.i_Link, notFirst_self, o1, m1, .ref o2, a1, t1, n1, rfl, h1, .inl ⟨o2, m2, a2, t2, n2, rfl, h2, q⟩⟩
theorem neL (T : Tx K mg) (h1 : LinkAt K H o1 m1 a1 t1 n1) (h2 : LinkAt K H o2 m2 a2 t2 n2) (q : Q (.bl (!decide (t1 = t2 ∧ a1 = a2))) H) : rOwnN K (cL K) (spL K) (.ref o1) (.ref o2) H Q := by
  obtain ⟨d1, f1, i1⟩ := h1.ins
  obtain ⟨d2, f2, i2⟩ := h2.ins
  exact ⟨o1, d1, f1, _, rfl, i1, ty_ins i2 T.i_Link, notFirst_self, o1, m1, .ref o2, a1, t1, n1, rfl, h1, .inl ⟨o2, m2, a2, t2, n2, rfl, h2, _, rfl, q⟩⟩
theorem eqLo (h1 : LinkAt K H o1 m1 a1 t1 n1) {y : V} {tb : Value} (ty : TyX K H y tb) (nf : PySem.W.notFirst K (cL K) tb = true) (no : PySem.W.kitOne K tb (.ref (cL K)) = some false) (q : Q (.bl false) H) : rOwnE K (cL K) (spL K) (.ref o1) y H Q := by
  obtain ⟨d1, f1, i1⟩ := h1.ins
  exact ⟨o1, d1, f1, _, rfl, i1, ty, nf, o1, m1, y, a1, t1, n1, rfl, h1, .inr ⟨⟨tb, ty, no⟩, q⟩⟩
theorem neLo (h1 : LinkAt K H o1 m1 a1 t1 n1) {y : V} {tb : Value} (ty : TyX K H y tb) (nf : PySem.W.notFirst K (cL K) tb = true) (no : PySem.W.kitOne K tb (.ref (cL K)) = some false) (q : Q (.bl true) H) : rOwnN K (cL K) (spL K) (.ref o1) y H Q := by
  obtain ⟨d1, f1, i1⟩ := h1.ins
  exact ⟨o1, d1, f1, _, rfl, i1, ty, nf, o1, m1, y, a1, t1, n1, rfl, h1, .inr ⟨⟨tb, ty, no⟩, _, rfl, q⟩⟩
theorem inM (T : Tx K mg) (h1 : MachAt K H o1 t1 n1) (h2 : MachAt K H o2 t2 n2) (ne : o1 ≠ o2) {l : Addr} (hl : H l = some (.lst [.int 0, .ref o2])) (q : Q (.bl (decide (t1 = t2))) H) : rIn2 (cM K) (spM K) (.ref o1) (.ref l) H Q := by
  obtain ⟨d1, f1, i1⟩ := h1.ins
  obtain ⟨d2, f2, i2⟩ := h2.ins
  have e : decide (t1 = t2) = decide (t2 = t1) := by simp [eq_comm]
  refine ⟨o1, o2, l, 0, d1, d2, f1, f2, rfl, rfl, hl, i1, i2, o1, .int 0, t1, n1, rfl, h1, .inr ⟨T.b_Machine.no (.base (.int 0)) (by simp), rfl, Same.refl _, fun z => (ne z).elim, fun _ => ?_⟩⟩
  exact ⟨o2, .ref o1, t2, n2, rfl, h2, .inl ⟨o1, t1, n1, rfl, h1, Same.refl _, _, rfl, by rw [← e]; exact q⟩⟩
theorem inL (T : Tx K mg) (h1 : LinkAt K H o1 m1 a1 t1 n1) (h2 : LinkAt K H o2 m2 a2 t2 n2) (ne : o1 ≠ o2) {l : Addr} (hl : H l = some (.lst [.int 0, .ref o2])) (q : Q (.bl (decide (t1 = t2 ∧ a1 = a2))) H) : rIn2 (cL K) (spL K) (.ref o1) (.ref l) H Q := by
  obtain ⟨d1, f1, i1⟩ := h1.ins
  obtain ⟨d2, f2, i2⟩ := h2.ins
  have e : decide (t1 = t2 ∧ a1 = a2) = decide (t2 = t1 ∧ a2 = a1) := by simp [eq_comm]
  refine ⟨o1, o2, l, 0, d1, d2, f1, f2, rfl, rfl, hl, i1, i2, o1, m1, .int 0, a1, t1, n1, rfl, h1, .inr ⟨T.b_Link.no (.base (.int 0)) (by simp), rfl, Same.refl _, fun z => (ne z).elim, fun _ => ?_⟩⟩
  exact ⟨o2, m2, .ref o1, a2, t2, n2, rfl, h2, .inl ⟨o1, m1, a1, t1, n1, rfl, h1, Same.refl _, _, rfl, by rw [← e]; exact q⟩⟩
end
/-- two machines, two links, alike or not -/
def Two (K : PySem.W.Frag) (H : Hp) (o1 o2 : Addr) (c : Bool) : Prop :=
  (∃ (t1 t2 : List (List Int)) (n1 n2 : Nat), MachAt K H o1 t1 n1 ∧ MachAt K H o2 t2 n2 ∧ c = decide (t1 = t2)) ∨
  (∃ (m1 m2 : Addr) (a1 a2 : Nums) (t1 t2 : List (List Int)) (n1 n2 : Nat), LinkAt K H o1 m1 a1 t1 n1 ∧ LinkAt K H o2 m2 a2 t2 n2 ∧ c = decide (t1 = t2 ∧ a1 = a2))
abbrev rE (K : PySem.W.Frag) : R2 := fun x y H Q => rOwnE K (cM K) (spM K) x y H Q ∨ rOwnE K (cL K) (spL K) x y H Q
abbrev rN (K : PySem.W.Frag) : R2 := fun x y H Q => rOwnN K (cM K) (spM K) x y H Q ∨ rOwnN K (cL K) (spL K) x y H Q
abbrev rI2 (K : PySem.W.Frag) : R2 := fun x y H Q => rIn2 (cM K) (spM K) x y H Q ∨ rIn2 (cL K) (spL K) x y H Q
structure Does (K : PySem.W.Frag) (H : Hp) (o1 o2 : Addr) (c : Bool) : Prop where
  e12 : ∀ H', Same H H' → ∀ Q : VK, Q (.bl c) H' → rE K (.ref o1) (.ref o2) H' Q
  e21 : ∀ H', Same H H' → ∀ Q : VK, Q (.bl c) H' → rE K (.ref o2) (.ref o1) H' Q
  n12 : ∀ H', Same H H' → ∀ Q : VK, Q (.bl (!c)) H' → rN K (.ref o1) (.ref o2) H' Q
  n21 : ∀ H', Same H H' → ∀ Q : VK, Q (.bl (!c)) H' → rN K (.ref o2) (.ref o1) H' Q
  e11 : ∀ H', Same H H' → ∀ Q : VK, Q (.bl true) H' → rE K (.ref o1) (.ref o1) H' Q
  n11 : ∀ H', Same H H' → ∀ Q : VK, Q (.bl false) H' → rN K (.ref o1) (.ref o1) H' Q
  i12 : ∀ H', Same H H' → ∀ (Q : VK) (l : Addr), H' l = some (.lst [.int 0, .ref o2]) → Q (.bl c) H' → rI2 K (.ref o1) (.ref l) H' Q
theorem Two.does (T : Tx K mg) {H : Hp} {o1 o2 : Addr} {c : Bool} (ne : o1 ≠ o2) (h : Two K H o1 o2 c) : Does K H o1 o2 c := by
  rcases h with ⟨t1, t2, n1, n2, h1, h2, rfl⟩ | ⟨m1, m2, a1, a2, t1, t2, n1, n2, h1, h2, rfl⟩
  · have e : decide (t1 = t2) = decide (t2 = t1) := by simp [eq_comm]
    exact ⟨fun H' s Q q => .inl (eqM T (h1.same s) (h2.same s) q), fun H' s Q q => .inl (eqM T (h2.same s) (h1.same s) (by rw [← e]; exact q)),
      fun H' s Q q => .inl (neM T (h1.same s) (h2.same s) q), fun H' s Q q => .inl (neM T (h2.same s) (h1.same s) (by rw [← e]; exact q)),
      fun H' s Q q => .inl (eqM T (h1.same s) (h1.same s) (by simpa using q)), fun H' s Q q => .inl (neM T (h1.same s) (h1.same s) (by simpa using q)),
      fun H' s Q l hl q => .inl (inM T (h1.same s) (h2.same s) ne hl q)⟩
  · have e : decide (t1 = t2 ∧ a1 = a2) = decide (t2 = t1 ∧ a2 = a1) := by simp [eq_comm]
    exact ⟨fun H' s Q q => .inr (eqL T (h1.same s) (h2.same s) q), fun H' s Q q => .inr (eqL T (h2.same s) (h1.same s) (by rw [← e]; exact q)),
      fun H' s Q q => .inr (neL T (h1.same s) (h2.same s) q), fun H' s Q q => .inr (neL T (h2.same s) (h1.same s) (by rw [← e]; exact q)),
      fun H' s Q q => .inr (eqL T (h1.same s) (h1.same s) (by simpa using q)), fun H' s Q q => .inr (neL T (h1.same s) (h1.same s) (by simpa using q)),
      fun H' s Q l hl q => .inr (inL T (h1.same s) (h2.same s) ne hl q)⟩
def sp__law_alike (K : PySem.W.Frag) : Sp := fun vs H Q _ => ∃ (o1 o2 : Addr) (c : Bool), vs = [.ref o1, .ref o2, .bl c] ∧ o1 ≠ o2 ∧ Two K H o1 o2 c ∧ ∀ H', Same H H' → Q (.bl true) H'
theorem sd_bools {H : Hp} {a b : Addr} {bs : List Bool} {m : Nat} (ha : SqL K H a (bs.map V.bl)) (hb : SqL K H b (bs.map V.bl)) : Sd K H (m + 2) (.ref a) (.ref b) := Sd.lst ha hb (paired_flat (by simp [flatV]))
theorem ok__law_alike {f : Addr} {fd : FuncData} (F : At K mg "_law_alike" s__law_alike [] [] f fd) (T : Tx K mg) (c__law_same : Cl P w K mg base 4 "_law_same" (spSame K 4) []) (e_Machine : EqOf P w K mg base 1 (He.ga K "Machine") (sp_Machine___eq__ K)) (e_Link : EqOf P w K mg base 3 (He.ga K "Link") (sp_Link___eq__ K)) : Cl P w K mg base 5 "_law_alike" (sp__law_alike K) [] := by
  refine cl_of F sc__law_alike (fun _ _ _ _ _ _ us hl => match us, hl with | [_, _, _], _ => rfl) (by walk_at "len") (fun cdv A outer s H vs Q E hr h => ?_)
  obtain ⟨o1, o2, c, rfl, ne, two, k⟩ := h
  have d := Two.does T ne two
  refine ⟨_, (pss_cons (ps_if (pt_not (pt_val (pcl c__law_same hr (by decide) rfl (pa_cons (pe_lst (pa_cons (pe_cmpR ((op_eqO e_Machine (hr.mono (by decide))).or (op_eqO e_Link (hr.mono (by decide)))) (pv 0) (pv 1) (nomark _)) (pa_cons (pe_cmpR ((op_eqO e_Machine (hr.mono (by decide))).or (op_eqO e_Link (hr.mono (by decide)))) (pv 1) (pv 0) (nomark _)) (pa_cons (pe_cmpR ((op_neO e_Machine (hr.mono (by decide))).or (op_neO e_Link (hr.mono (by decide)))) (pv 0) (pv 1) (nomark _)) (pa_cons (pe_cmpR ((op_neO e_Machine (hr.mono (by decide))).or (op_neO e_Link (hr.mono (by decide)))) (pv 1) (pv 0) (nomark _)) pa_nil))))) (pa_cons (pe_lst (pa_cons (pv 2) (pa_cons (pv 2) (pa_cons (pe_not (pv 2)) (pa_cons (pe_not (pv 2)) pa_nil))))) pa_nil))))) (pss_one (ps_ret pe_bl)) pss_nil)
      (pss_one (ps_ret (pe_and (pe_cmpR (kEq K hr) (pe_cmpR ((op_in2 e_Machine T.b_Machine.si (hr.mono (by decide))).or (op_in2 e_Link T.b_Link.si (hr.mono (by decide)))) (pv 0) (pe_lst (pa_cons pe_int (pa_cons (pv 1) pa_nil))) (by rfl)) (pv 2) (nomark _)) (pe_one (pcl c__law_same hr (by decide) rfl (pa_cons (pe_lst (pa_cons (pe_cmpR ((op_eqO e_Machine (hr.mono (by decide))).or (op_eqO e_Link (hr.mono (by decide)))) (pv 0) (pv 0) (nomark _)) (pa_cons (pe_cmpR ((op_neO e_Machine (hr.mono (by decide))).or (op_neO e_Link (hr.mono (by decide)))) (pv 0) (pv 0) (nomark _)) pa_nil))) (pa_cons (pe_lst (pa_cons pe_bl (pa_cons pe_bl pa_nil))) pa_nil)))))))), ?_⟩
  repeat walk_at "s"
  refine d.e12 _ (Same.refl _) _ ?_
  repeat walk_at "s"
  refine d.e21 _ (Same.refl _) _ ?_
  repeat walk_at "s"
  refine d.n12 _ (Same.refl _) _ ?_
  repeat walk_at "s"
  refine d.n21 _ (Same.refl _) _ ?_
  repeat walk_at "s"
  refine ⟨szl (by simp), fun p1 hp1 => ?_⟩
  have s1 := same_upd (o := .lst [.bl c, .bl c, .bl (!c), .bl (!c)]) hp1
  repeat walk_at "s"
  refine ⟨szl (by simp), fun p2 hp2 => ?_⟩
  have s2 := same_upd (o := .lst [.bl c, .bl c, .bl (!c), .bl (!c)]) hp2
  repeat walk_at "s"
  refine ⟨.ref p1, .ref p2, rfl, sd_bools (bs := [c, c, !c, !c]) (SqL.of (s2 _ _ upd_same)) (SqL.of upd_same), fun H3 s3 => ?_⟩
  have s03 := (s1.trans s2).trans s3
  repeat walk_at "s"
  refine ⟨szl (by simp), fun p3 hp3 => ?_⟩
  have s4 := same_upd (o := .lst [.int 0, .ref o2]) hp3
  have s04 := s03.trans s4
  repeat walk_at "s"
  refine d.i12 _ s04 _ p3 upd_same ?_
  repeat walk_at "s"
  refine r_eqS rfl ?_
  rw [decide_eq_true rfl]
  repeat walk_at "s"
  refine d.e11 _ s04 _ ?_
  repeat walk_at "s"
  refine d.n11 _ s04 _ ?_
  repeat walk_at "s"
  refine ⟨szl (by simp), fun p5 hp5 => ?_⟩
  have s5 := same_upd (o := .lst [.bl true, .bl false]) hp5
  repeat walk_at "s"
  refine ⟨szl (by simp), fun p6 hp6 => ?_⟩
  have s6 := same_upd (o := .lst [.bl true, .bl false]) hp6
  repeat walk_at "s"
  exact ⟨.ref p5, .ref p6, rfl, sd_bools (bs := [true, false]) (SqL.of (s6 _ _ upd_same)) (SqL.of upd_same), fun H7 s7 => k _ (((s04.trans s5).trans s6).trans s7)⟩
end
end P45

namespace P45
open PySem PySem.Spec PyProof.Rows L2 Pg
local macro_rules | `(tactic| walk_at "s") => `(tactic| first
  | ((with_reducible refine r_var (v := ?v) ?h ?q); case h => rfl)
  | (with_reducible refine r_c ?_)
  | (with_reducible refine r_op ?_)
  | (with_reducible refine r_un ?_)
  | (with_reducible refine r_I0 ?_)
  | (with_reducible refine r_U ?_)
  | (with_reducible refine r_addI ?_)
  | (with_reducible refine r_eqI ?_)
  | (with_reducible refine r_neI ?_)
  | (with_reducible refine r_eqT ?_)
  | (with_reducible refine r_neT ?_)
  | (with_reducible refine r_seq ?_)
  | (with_reducible refine r_asg ?_)
  | ((with_reducible refine r_name (σ' := ?s) ?h ?q); case h => (simp only [List.set_cons_zero, List.set_cons_succ, L2.start, List.map_cons, List.map_nil, List.length_cons, List.length_nil, List.cons_append, List.nil_append, List.replicate_succ, List.replicate_zero, Nat.reduceAdd, Nat.reduceSub]; rfl))
  | (with_reducible refine r_cons ?_)
  | (with_reducible refine r_nil ?_)
  | (with_reducible refine r_call ?_)
  | (with_reducible refine r_cb ?_)
  | (with_reducible refine r_ret ?_)
  | (with_reducible refine r_retN ?_)
  | (with_reducible refine r_ifs ?_)
  | (with_reducible refine r_if ?_)
  | (with_reducible refine r_tt ?_)
  | (with_reducible refine r_tb ?_)
  | (with_reducible refine r_tand ?_)
  | (with_reducible refine r_tor ?_)
  | (with_reducible refine r_tnot ?_)
  | (with_reducible refine r_and ?_)
  | (with_reducible refine r_or ?_)
  | (with_reducible refine r_not ?_)
  | (with_reducible refine r_chain ?_)
  | (with_reducible refine r_bl ?_)
  | (with_reducible refine r_int ?_)
  | (with_reducible refine r_iteT ?_)
  | (with_reducible refine r_iteF ?_)
  | (with_reducible refine r_inT ?_)
  | (with_reducible refine r_inF ?_)
  | (with_reducible refine r_intc ?_)
  | (with_reducible refine r_abs ?_)
  | (with_reducible refine r_lst ?_)
  | (with_reducible refine r_tup ?_)
  | (with_reducible refine r_sl ?_)
  | (with_reducible refine r_nopart ?_)
  | (with_reducible refine r_part ?_)
  | (with_reducible refine r_bm ?_)
  | (with_reducible refine r_bm0 ?_)
  | (with_reducible refine r_m1 ?_)
  | (with_reducible refine r_gsub ?_)
  | (with_reducible refine r_drop ?_)
  | (with_reducible refine r_next ?_)
  | (with_reducible refine r_par ?_)
  | (with_reducible refine r_par3 ?_)
  | (with_reducible refine r_par2 ?_)
  | (with_reducible refine r_fld ?_)
  | (with_reducible refine r_sfld ?_)
  | (with_reducible refine r_make ?_)
  | (with_reducible refine r_strI ?_)
  | (with_reducible refine r_min ?_)
  | (with_reducible refine r_max ?_))
local macro_rules | `(tactic| walk_at "n") => `(tactic| first
  | ((with_reducible refine r_var (v := ?v) ?h ?q); case h => rfl)
  | (with_reducible refine r_c ?_)
  | (with_reducible refine r_op ?_)
  | (with_reducible refine r_un ?_)
  | (with_reducible refine r_I0 ?_)
  | (with_reducible refine r_U ?_)
  | (with_reducible refine r_addI ?_)
  | (with_reducible refine r_eqI ?_)
  | (with_reducible refine r_neI ?_)
  | (with_reducible refine r_eqT ?_)
  | (with_reducible refine r_neT ?_)
  | (with_reducible refine r_asg ?_)
  | ((with_reducible refine r_name (σ' := ?s) ?h ?q); case h => (simp only [List.set_cons_zero, List.set_cons_succ, L2.start, List.map_cons, List.map_nil, List.length_cons, List.length_nil, List.cons_append, List.nil_append, List.replicate_succ, List.replicate_zero, Nat.reduceAdd, Nat.reduceSub]; rfl))
  | (with_reducible refine r_cons ?_)
  | (with_reducible refine r_nil ?_)
  | (with_reducible refine r_call ?_)
  | (with_reducible refine r_cb ?_)
  | (with_reducible refine r_ret ?_)
  | (with_reducible refine r_retN ?_)
  | (with_reducible refine r_ifs ?_)
  | (with_reducible refine r_if ?_)
  | (with_reducible refine r_tt ?_)
  | (with_reducible refine r_tb ?_)
  | (with_reducible refine r_tand ?_)
  | (with_reducible refine r_tor ?_)
  | (with_reducible refine r_tnot ?_)
  | (with_reducible refine r_and ?_)
  | (with_reducible refine r_or ?_)
  | (with_reducible refine r_not ?_)
  | (with_reducible refine r_chain ?_)
  | (with_reducible refine r_bl ?_)
  | (with_reducible refine r_int ?_)
  | (with_reducible refine r_iteT ?_)
  | (with_reducible refine r_iteF ?_)
  | (with_reducible refine r_inT ?_)
  | (with_reducible refine r_inF ?_)
  | (with_reducible refine r_intc ?_)
  | (with_reducible refine r_abs ?_)
  | (with_reducible refine r_lst ?_)
  | (with_reducible refine r_tup ?_)
  | (with_reducible refine r_sl ?_)
  | (with_reducible refine r_nopart ?_)
  | (with_reducible refine r_part ?_)
  | (with_reducible refine r_bm ?_)
  | (with_reducible refine r_bm0 ?_)
  | (with_reducible refine r_m1 ?_)
  | (with_reducible refine r_gsub ?_)
  | (with_reducible refine r_drop ?_)
  | (with_reducible refine r_next ?_)
  | (with_reducible refine r_par ?_)
  | (with_reducible refine r_par3 ?_)
  | (with_reducible refine r_par2 ?_)
  | (with_reducible refine r_fld ?_)
  | (with_reducible refine r_sfld ?_)
  | (with_reducible refine r_make ?_)
  | (with_reducible refine r_strI ?_)
  | (with_reducible refine r_min ?_)
  | (with_reducible refine r_max ?_))
local macro_rules | `(tactic| walk_at "len") => `(tactic| (intro _ _ _ _ h; first | (obtain ⟨e, _⟩ := h; subst e; rfl) | (obtain ⟨_, e, _⟩ := h; subst e; rfl) | (obtain ⟨_, _, e, _⟩ := h; subst e; rfl) | (obtain ⟨_, _, _, e, _⟩ := h; subst e; rfl) | (obtain ⟨_, _, _, _, e, _⟩ := h; subst e; rfl) | (obtain ⟨_, _, _, _, _, e, _⟩ := h; subst e; rfl) | (obtain ⟨_, _, _, _, _, _, e, _⟩ := h; subst e; rfl) | (obtain ⟨_, _, _, _, _, _, _, e, _⟩ := h; subst e; rfl) | (obtain ⟨_, _, _, _, _, _, _, _, e, _⟩ := h; subst e; rfl) | (obtain ⟨_, _, _, _, _, _, _, _, _, e, _⟩ := h; subst e; rfl) | (obtain ⟨_, _, _, _, _, _, _, _, _, _, e, _⟩ := h; subst e; rfl) | (obtain ⟨_, _, _, _, _, _, _, _, _, _, _, e, _⟩ := h; subst e; rfl)))

section
variable {P : Program} {w : World} {K : PySem.W.Frag} {mg : Str → Option Value} {base : Heap}
theorem rows_sd {H : Hp} {m : Nat} : ∀ {rs rs' : List V} {tabs : List (List Int)}, RowsT K H rs tabs → RowsT K H rs' tabs → Paired (Sd K H (m + 2)) rs rs'
  | _, _, _, .nil, .nil => .nil
  | _, _, _, .cons ⟨a, e, q⟩ r, .cons ⟨a', e', q'⟩ r' => by
    subst e; subst e'
    exact .cons (Sd.tup q q' (paired_flat (flat_ints _))) (rows_sd r r')
theorem TupT.sd {H : Hp} {m : Nat} {u v : V} {tabs : List (List Int)} (h : TupT K H u tabs) (h' : TupT K H v tabs) : Sd K H (m + 3) u v := by
  obtain ⟨a, rs, rfl, q, r⟩ := h
  obtain ⟨a', rs', rfl, q', r'⟩ := h'
  exact Sd.tup q q' (rows_sd r r')
def sp__law_read_right (K : PySem.W.Frag) : Sp := fun vs H Q _ => ∃ (v : V) (nl : Addr) (tabs : List (List Int)) (n : Nat) (a : Nums), vs = [v, .ref nl] ∧ TabV K H v tabs ∧ Good tabs n ∧ SqL K H nl ((numsOf a).map V.int) ∧ NumOk n a ∧ ∀ H', Same H H' → Q (.bl true) H'
theorem ok__law_read_right {f : Addr} {fd : FuncData} (F : At K mg "_law_read_right" s__law_read_right [] [] f fd) (T : Tx K mg) (c_read_machine : Cl P w K mg base 9 "read_machine" (sp_read_machine K) []) (c__law_text : Cl P w K mg base 2 "_law_text" (sp__law_text K) []) (c_read_link : Cl P w K mg base 9 "read_link" (sp_read_link K) []) (c__law_row : Cl P w K mg base 1 "_law_row" (sp__law_row K) []) (c__law_same : Cl P w K mg base 4 "_law_same" (spSame K 4) []) (c__law_tuples : Cl P w K mg base 1 "_law_tuples" (sp__law_tuples K) []) (c_Link : Cm P w K mg base 5 "Link" (He.ga K "Link") (sp_Link K) []) (c_Machine : Cm P w K mg base 6 "Machine" (He.ga K "Machine") (sp_Machine K) []) (c_machine_text : Cl P w K mg base 2 "machine_text" (sp_machine_text K) []) (c_link_text : Cl P w K mg base 3 "link_text" (sp_link_text K) []) (c__law_alike : Cl P w K mg base 5 "_law_alike" (sp__law_alike K) []) : Cl P w K mg base 10 "_law_read_right" (sp__law_read_right K) [] := by
  refine cl_of F sc__law_read_right (fun _ _ _ _ _ _ us hl => match us, hl with | [_, _], _ => rfl) (by walk_at "len") (fun cdv A outer s H vs Q E hr h => ?_)
  obtain ⟨v, nl, tabs, n, a, rfl, hv, G, hnl, O, k⟩ := h
  have g1 := G.ne
  have g4 := G.few
  have g8 := G.n8
  have sm : Sm (numsOf a) := Nums.sm O g8
  have zm := machL_len G
  have zr : (rowL (numsOf a)).length ≤ 28 := rowL_len sm
  have ea : machL tabs n ++ 10 :: liL ++ rowL (numsOf a) = allL tabs n (numsOf a) := by simp [allL, linkL]
  have e0 : atI ((numsOf a).map V.int) 0 = some (.int a.f) := atI_nat (j := 0) rfl
  have e1 : atI ((numsOf a).map V.int) 1 = some (.int a.l) := atI_nat (j := 1) rfl
  have e2 : atI ((numsOf a).map V.int) 2 = some (.int a.o) := atI_nat (j := 2) rfl
  have e3 : atI ((numsOf a).map V.int) 3 = some (.int a.q) := atI_nat (j := 3) rfl
  refine ⟨_, (pss_cons (ps_par (i := 2) (j := 3) rfl sc__law_read_right.nd rfl rfl (by decide) rfl rfl (pa_cons (pcl c_read_machine hr (by decide) rfl (pa_cons (pcl c__law_text hr (by decide) rfl (pa_cons (pv 0) pa_nil)) pa_nil)) (pa_cons (pcl c_read_link hr (by decide) rfl (pa_cons (pe_op (kAdd K) (pe_op (kAdd K) (pcl c__law_text hr (by decide) rfl (pa_cons (pv 0) pa_nil)) pe_str) (pcl c__law_row hr (by decide) rfl (pa_cons (pv 1) pa_nil))) pa_nil)) pa_nil)) rfl)
      (pss_cons (ps_if (PW.pt (pw_or (pt_not (pt_val (pe_callB (kIsi K) rfl T.b_isinstance (by decide +kernel) (pa_cons (pv 2) (pa_cons (pe_glob (v := .ref (He.ga K "Machine")) rfl T.g_Machine rfl) pa_nil))))) (pw_or (pt_not (pt_val (pe_callB (kIsi K) rfl T.b_isinstance (by decide +kernel) (pa_cons (pv 3) (pa_cons (pe_glob (v := .ref (He.ga K "Link")) rfl T.g_Link rfl) pa_nil))))) (pw_or1 (pt_not (pt_val (pe_callB (kIsi K) rfl T.b_isinstance (by decide +kernel) (pa_cons (kFld K (pv 3) rfl) (pa_cons (pe_glob (v := .ref (He.ga K "Machine")) rfl T.g_Machine rfl) pa_nil))))))))) (pss_one (ps_ret pe_bl)) pss_nil)
      (pss_cons (ps_for PassesOwn.never rfl (kSeq K (pe_tup (pa_cons (pv 2) (pa_cons (kFld K (pv 3) rfl) pa_nil)))) (pg_name (i := 4) sc__law_read_right.nd rfl (Or.inl rfl))
      (pss_one (ps_if (pt_not (pt_val (pcl c__law_same hr (by decide) rfl (pa_cons (pe_lst (pa_cons (kFld K (pv 4) rfl) (pa_cons (kFld K (pv 4) rfl) (pa_cons (kFld K (pv 4) rfl) pa_nil)))) (pa_cons (pe_lst (pa_cons (pcl c__law_tuples hr (by decide) rfl (pa_cons (pv 0) pa_nil)) (pa_cons (pe_callB (kLen K) rfl T.b_len (by decide +kernel) (pa_cons (pv 0) pa_nil)) (pa_cons (pe_callB (kLen K) rfl T.b_len (by decide +kernel) (pa_cons (pe_ix (kIx K) (pv 0) pe_int (fun _ _ => rfl)) pa_nil)) pa_nil)))) pa_nil))))) (pss_one (ps_ret pe_bl)) pss_nil)))
      (pss_cons (ps_if (pt_not (pt_val (pcl c__law_same hr (by decide) rfl (pa_cons (pe_lst (pa_cons (kFld K (pv 3) rfl) (pa_cons (kFld K (pv 3) rfl) (pa_cons (kFld K (pv 3) rfl) (pa_cons (kFld K (pv 3) rfl) pa_nil))))) (pa_cons (pv 1) pa_nil))))) (pss_one (ps_ret pe_bl)) pss_nil)
      (pss_cons (ps_set (i := 5) sc__law_read_right.nd rfl (Or.inl rfl) (pmk c_Link hr (by decide) rfl (pa_cons (pmk c_Machine hr (by decide) rfl (pa_cons (pv 0) pa_nil)) (pa_cons (pe_ix (kIx K) (pv 1) pe_int (fun _ _ => rfl)) (pa_cons (pe_ix (kIx K) (pv 1) pe_int (fun _ _ => rfl)) (pa_cons (pe_ix (kIx K) (pv 1) pe_int (fun _ _ => rfl)) (pa_cons (pe_ix (kIx K) (pv 1) pe_int (fun _ _ => rfl)) pa_nil)))))))
      (pss_cons (ps_if (PW.pt (pw_or (pt_cmpR (kNe K hr) (pcl c_machine_text hr (by decide) rfl (pa_cons (pmk c_Machine hr (by decide) rfl (pa_cons (pv 0) pa_nil)) pa_nil)) (pcl c__law_text hr (by decide) rfl (pa_cons (pv 0) pa_nil)) (nomark _)) (pw_or1 (pt_cmpR (kNe K hr) (pcl c_link_text hr (by decide) rfl (pa_cons (pv 5) pa_nil)) (pe_op (kAdd K) (pe_op (kAdd K) (pcl c__law_text hr (by decide) rfl (pa_cons (pv 0) pa_nil)) pe_str) (pcl c__law_row hr (by decide) rfl (pa_cons (pv 1) pa_nil))) (nomark _))))) (pss_one (ps_ret pe_bl)) pss_nil)
      (pss_one (ps_ret (pe_and (pcl c__law_alike hr (by decide) rfl (pa_cons (pv 2) (pa_cons (pmk c_Machine hr (by decide) rfl (pa_cons (pcl c__law_tuples hr (by decide) rfl (pa_cons (pv 0) pa_nil)) pa_nil)) (pa_cons pe_bl pa_nil)))) (pe_one (pcl c__law_alike hr (by decide) rfl (pa_cons (pv 3) (pa_cons (pv 5) (pa_cons pe_bl pa_nil)))))))))))))), ?_⟩
  repeat walk_at "s"
  refine ⟨v, tabs, n, rfl, hv, G, fun H1 s1 => ?_⟩
  repeat walk_at "s"
  refine ⟨tabs, n, rfl, G, fun x H2 s2 hx hxm => ?_⟩
  have s02 := s1.trans s2
  repeat walk_at "s"
  refine ⟨v, tabs, n, rfl, hv.same s02, G, fun H3 s3 => ?_⟩
  repeat walk_at "s"
  rw [l_nlli]
  refine r_addT (by simp; omega) ?_
  repeat walk_at "s"
  have s03 := s02.trans s3
  refine ⟨nl, numsOf a, rfl, .inl (SqL.ext hnl s03), by simp [numsOf], by simp [numsOf], sm, fun H4 s4 => ?_⟩
  refine r_addT (by simp; omega) ?_
  rw [ea]
  have s04 := s03.trans s4
  repeat walk_at "s"
  refine ⟨a, tabs, n, rfl, G, O, fun y m H5 s5 hy hm hyl => ?_⟩
  have s05 := s04.trans s5
  have hxm5 := hxm.same ((s3.trans s4).trans s5)
  repeat walk_at "s"
  obtain ⟨Oy, hmm5, dy, hyi⟩ := id hyl
  obtain ⟨Gx, dxx, tx, hxi, htx⟩ := id hxm5
  obtain ⟨Gm, dm, tm, hmi, htm⟩ := id hmm5
  refine r_isiC (ty_ins hxi T.i_Machine) T.i_Machine.me ?_
  repeat walk_at "s"
  refine r_isiC (ty_ins hyi T.i_Link) T.i_Link.me ?_
  repeat walk_at "s"
  refine ⟨y, cL K, dy, _, _, rfl, hyi, T.i_Link.cl, T.n_Link_machine, lf_m _ _, ?_⟩
  repeat walk_at "s"
  refine r_isiC (ty_ins hmi T.i_Machine) T.i_Machine.me ?_
  repeat walk_at "s"
  refine r_for (r_iseqMT ?_)
  repeat walk_at "s"
  refine ⟨y, cL K, dy, _, _, rfl, hyi, T.i_Link.cl, T.n_Link_machine, lf_m _ _, ?_⟩
  repeat walk_at "s"
  refine ⟨szl (by simp), fun pt hpt => ?_⟩
  have s6 := same_upd (o := .tup [.ref x, .ref m]) hpt
  have s06 := s05.trans s6
  have hv0 : ∀ {H'}, Same H H' → TabV K H' v tabs := fun s => hv.same s
  obtain ⟨va, vrs, rfl, hvs, hvr⟩ := id hv
  have hvl : vrs.length = tabs.length := paired_len hvr
  obtain ⟨t0, ht0⟩ : ∃ t0, tabs[0]? = some t0 := ⟨_, List.getElem?_eq_getElem (by omega)⟩
  obtain ⟨r0, hr0⟩ : ∃ r0, vrs[0]? = some r0 := ⟨_, List.getElem?_eq_getElem (by omega)⟩
  obtain ⟨t0', e0', b0, rfl, hb0⟩ := paired_at hvr hr0
  rw [ht0] at e0'
  cases e0'
  have hl0 : t0.length = n := G.len t0 (List.mem_of_getElem? ht0)
  refine r_ittX (SqT.of upd_same) fun wk => ?_
  refine for_ask wk (fun i σ H' => ∃ z w, σ = [some (.ref va), some (.ref nl), some (.ref x), some (.ref y), z, w] ∧ Same (upd H5 pt (.tup [.ref x, .ref m])) H') ⟨_, _, rfl, Same.refl _⟩ (fun i σ H' _ ⟨_, _, _, s⟩ => SqT.ext (SqT.of upd_same) s) ?_ ?_
  · rintro i one σ H7 H8 hi ⟨z, w', rfl, s7⟩ ⟨rfl, hone⟩
    have s57 := s6.trans s7
    have s07 := s06.trans s7
    have hm1 : ∃ o, one = .ref o ∧ MachAt K H8 o tabs n := by
      have hi : i < 2 := hi
      have : i = 0 ∨ i = 1 := by omega
      rcases this with rfl | rfl
      · cases hone; exact ⟨x, rfl, hxm5.same s57⟩
      · cases hone; exact ⟨m, rfl, hmm5.same s57⟩
    obtain ⟨o, rfl, Go, dO, tO, hoi, htO⟩ := hm1
    repeat walk_at "s"
    refine ⟨o, cM K, dO, _, _, rfl, hoi, T.i_Machine.cl, T.n_Machine_tables, mf_t _ _ _, ?_⟩
    repeat walk_at "s"
    refine ⟨o, cM K, dO, _, _, rfl, hoi, T.i_Machine.cl, T.n_Machine_deeds, mf_d _ _ _, ?_⟩
    repeat walk_at "s"
    refine ⟨o, cM K, dO, _, _, rfl, hoi, T.i_Machine.cl, T.n_Machine_states, mf_n _ _ _, ?_⟩
    repeat walk_at "s"
    refine ⟨szl (by simp), fun p1 hp1 => ?_⟩
    have s8 := same_upd (o := .lst [tO, .int tabs.length, .int n]) hp1
    repeat walk_at "s"
    refine ⟨_, tabs, rfl, hv0 (s07.trans s8), by omega, fun u H9 s9 hu => ?_⟩
    have s09 := (s07.trans s8).trans s9
    repeat walk_at "s"
    refine r_lenQ (hvs.same s09) ?_
    repeat walk_at "s"
    refine r_ixQ (hvs.same s09) (atI_nat hr0) ?_
    repeat walk_at "s"
    refine r_lenQ (hb0.same s09) ?_
    rw [List.length_map, hl0, hvl]
    repeat walk_at "s"
    refine ⟨szl (by simp), fun p2 hp2 => ?_⟩
    have s10 := same_upd (o := .lst [u, .int tabs.length, .int n]) hp2
    have s810 := (s8.trans s9).trans s10
    repeat walk_at "s"
    refine ⟨.ref p1, .ref p2, rfl, Sd.lst (SqL.of ((s9.trans s10) _ _ upd_same)) (SqL.of upd_same) (.cons (TupT.sd (htO.same s810) (hu.same s10)) (paired_flat (by simp [flatV]))), fun H11 s11 => ?_⟩
    repeat walk_at "s"
    exact ⟨_, _, rfl, (s7.trans s810).trans s11⟩
  · rintro σ H7 ⟨z, w', rfl, s7⟩
    have s57 := s6.trans s7
    have s07 := s06.trans s7
    have hyi7 := s57 _ _ hyi
    repeat walk_at "s"
    refine ⟨y, cL K, dy, _, _, rfl, hyi7, T.i_Link.cl, T.n_Link_first, lf_f _ _, ?_⟩
    repeat walk_at "s"
    refine ⟨y, cL K, dy, _, _, rfl, hyi7, T.i_Link.cl, T.n_Link_length, lf_l _ _, ?_⟩
    repeat walk_at "s"
    refine ⟨y, cL K, dy, _, _, rfl, hyi7, T.i_Link.cl, T.n_Link_loss, lf_o _ _, ?_⟩
    repeat walk_at "s"
    refine ⟨y, cL K, dy, _, _, rfl, hyi7, T.i_Link.cl, T.n_Link_modulus, lf_q _ _, ?_⟩
    repeat walk_at "s"
    refine ⟨szl (by simp), fun p1 hp1 => ?_⟩
    have s8 := same_upd (o := .lst ((numsOf a).map V.int)) hp1
    have s08 := s07.trans s8
    repeat walk_at "s"
    refine ⟨.ref p1, .ref nl, rfl, Sd.up (Sd.lst (SqL.of upd_same) (SqL.ext hnl s08) (paired_flat (m := 1) (by simp [flatV]))), fun H9 s9 => ?_⟩
    have s09 := s08.trans s9
    repeat walk_at "s"
    refine made_machine (hv0 s09) G fun mm H10 s10 hmm hmm10 => ?_
    have s010 := s09.trans s10
    have hn10 := SqL.ext hnl s010
    repeat walk_at "s"
    refine r_ixL hn10 e0 ?_
    repeat walk_at "s"
    refine r_ixL hn10 e1 ?_
    repeat walk_at "s"
    refine r_ixL hn10 e2 ?_
    repeat walk_at "s"
    refine r_ixL hn10 e3 ?_
    repeat walk_at "s"
    refine made_link hmm10 O fun ml H11 s11 hml hml11 => ?_
    have s011 := s010.trans s11
    repeat walk_at "s"
    refine made_machine (hv0 s011) G fun m2 H12 s12 hm2 hm212 => ?_
    have s012 := s011.trans s12
    repeat walk_at "s"
    refine ⟨m2, tabs, n, rfl, hm212, fun H13 s13 => ?_⟩
    have s013 := s012.trans s13
    repeat walk_at "s"
    refine ⟨_, tabs, n, rfl, hv0 s013, G, fun H14 s14 => ?_⟩
    have s014 := s013.trans s14
    refine r_neSS ?_
    rw [decide_eq_true rfl]
    repeat walk_at "s"
    refine ⟨ml, mm, a, tabs, n, rfl, hml11.same ((s12.trans s13).trans s14), fun H15 s15 => ?_⟩
    have s015 := s014.trans s15
    repeat walk_at "s"
    refine ⟨_, tabs, n, rfl, hv0 s015, G, fun H16 s16 => ?_⟩
    have s016 := s015.trans s16
    repeat walk_at "s"
    refine r_addT (by simp; omega) ?_
    repeat walk_at "s"
    refine ⟨nl, numsOf a, rfl, .inl (SqL.ext hnl s016), by simp [numsOf], by simp [numsOf], sm, fun H17 s17 => ?_⟩
    refine r_addT (by simp; omega) ?_
    rw [ea]
    have s017 := s016.trans s17
    refine r_neSS ?_
    rw [decide_eq_true (show allL tabs n [a.f, a.l, a.o, a.q] = allL tabs n (numsOf a) from rfl)]
    repeat walk_at "s"
    refine ⟨_, tabs, rfl, hv0 s017, by omega, fun u H18 s18 hu => ?_⟩
    have s018 := s017.trans s18
    repeat walk_at "s"
    refine made_machine hu.tab G fun m3 H19 s19 hm3 hm319 => ?_
    have s1119 := (((((s12.trans s13).trans s14).trans s15).trans s16).trans s17).trans (s18.trans s19)
    have s719 := (s8.trans s9).trans ((s10.trans s11).trans s1119)
    have hx19 := hxm5.same (s57.trans s719)
    have nx3 : x ≠ m3 := by
      rintro rfl
      obtain ⟨_, _, ex⟩ := (hxm5.same (s57.trans ((s8.trans s9).trans ((s10.trans s11).trans ((((((s12.trans s13).trans s14).trans s15).trans s16).trans s17).trans s18))))).ins
      rw [hm3] at ex; cases ex
    repeat walk_at "s"
    refine ⟨x, m3, true, rfl, nx3, .inl ⟨tabs, tabs, n, n, hx19, hm319, by simp⟩, fun H20 s20 => ?_⟩
    repeat walk_at "s"
    have nyl : y ≠ ml := by
      rintro rfl
      obtain ⟨_, _, ex⟩ := (hyl.same (s57.trans ((s8.trans s9).trans s10))).ins
      rw [hml] at ex; cases ex
    exact ⟨y, ml, true, rfl, nyl, .inr ⟨m, mm, a, a, tabs, tabs, n, n, hyl.same (s57.trans (s719.trans s20)), hml11.same (s1119.trans s20), by simp⟩, fun H21 s21 => k _ ((s018.trans s19).trans (s20.trans s21))⟩
end
end P45

namespace P45
open PySem PySem.Spec PyProof.Rows L2 Pg
local macro_rules | `(tactic| walk_at "s") => `(tactic| first
  | ((with_reducible refine r_var (v := ?v) ?h ?q); case h => rfl)
  | (with_reducible refine r_c ?_)
  | (with_reducible refine r_op ?_)
  | (with_reducible refine r_un ?_)
  | (with_reducible refine r_I0 ?_)
  | (with_reducible refine r_U ?_)
  | (with_reducible refine r_addI ?_)
  | (with_reducible refine r_eqI ?_)
  | (with_reducible refine r_neI ?_)
  | (with_reducible refine r_eqT ?_)
  | (with_reducible refine r_neT ?_)
  | (with_reducible refine r_seq ?_)
  | (with_reducible refine r_asg ?_)
  | ((with_reducible refine r_name (σ' := ?s) ?h ?q); case h => (simp only [List.set_cons_zero, List.set_cons_succ, L2.start, List.map_cons, List.map_nil, List.length_cons, List.length_nil, List.cons_append, List.nil_append, List.replicate_succ, List.replicate_zero, Nat.reduceAdd, Nat.reduceSub]; rfl))
  | (with_reducible refine r_cons ?_)
  | (with_reducible refine r_nil ?_)
  | (with_reducible refine r_call ?_)
  | (with_reducible refine r_cb ?_)
  | (with_reducible refine r_ret ?_)
  | (with_reducible refine r_retN ?_)
  | (with_reducible refine r_ifs ?_)
  | (with_reducible refine r_if ?_)
  | (with_reducible refine r_tt ?_)
  | (with_reducible refine r_tb ?_)
  | (with_reducible refine r_tand ?_)
  | (with_reducible refine r_tor ?_)
  | (with_reducible refine r_tnot ?_)
  | (with_reducible refine r_and ?_)
  | (with_reducible refine r_or ?_)
  | (with_reducible refine r_not ?_)
  | (with_reducible refine r_chain ?_)
  | (with_reducible refine r_bl ?_)
  | (with_reducible refine r_int ?_)
  | (with_reducible refine r_iteT ?_)
  | (with_reducible refine r_iteF ?_)
  | (with_reducible refine r_inT ?_)
  | (with_reducible refine r_inF ?_)
  | (with_reducible refine r_intc ?_)
  | (with_reducible refine r_abs ?_)
  | (with_reducible refine r_lst ?_)
  | (with_reducible refine r_tup ?_)
  | (with_reducible refine r_sl ?_)
  | (with_reducible refine r_nopart ?_)
  | (with_reducible refine r_part ?_)
  | (with_reducible refine r_bm ?_)
  | (with_reducible refine r_bm0 ?_)
  | (with_reducible refine r_m1 ?_)
  | (with_reducible refine r_gsub ?_)
  | (with_reducible refine r_drop ?_)
  | (with_reducible refine r_next ?_)
  | (with_reducible refine r_par ?_)
  | (with_reducible refine r_par3 ?_)
  | (with_reducible refine r_par2 ?_)
  | (with_reducible refine r_fld ?_)
  | (with_reducible refine r_sfld ?_)
  | (with_reducible refine r_make ?_)
  | (with_reducible refine r_strI ?_)
  | (with_reducible refine r_min ?_)
  | (with_reducible refine r_max ?_))
local macro_rules | `(tactic| walk_at "n") => `(tactic| first
  | ((with_reducible refine r_var (v := ?v) ?h ?q); case h => rfl)
  | (with_reducible refine r_c ?_)
  | (with_reducible refine r_op ?_)
  | (with_reducible refine r_un ?_)
  | (with_reducible refine r_I0 ?_)
  | (with_reducible refine r_U ?_)
  | (with_reducible refine r_addI ?_)
  | (with_reducible refine r_eqI ?_)
  | (with_reducible refine r_neI ?_)
  | (with_reducible refine r_eqT ?_)
  | (with_reducible refine r_neT ?_)
  | (with_reducible refine r_asg ?_)
  | ((with_reducible refine r_name (σ' := ?s) ?h ?q); case h => (simp only [List.set_cons_zero, List.set_cons_succ, L2.start, List.map_cons, List.map_nil, List.length_cons, List.length_nil, List.cons_append, List.nil_append, List.replicate_succ, List.replicate_zero, Nat.reduceAdd, Nat.reduceSub]; rfl))
  | (with_reducible refine r_cons ?_)
  | (with_reducible refine r_nil ?_)
  | (with_reducible refine r_call ?_)
  | (with_reducible refine r_cb ?_)
  | (with_reducible refine r_ret ?_)
  | (with_reducible refine r_retN ?_)
  | (with_reducible refine r_ifs ?_)
  | (with_reducible refine r_if ?_)
  | (with_reducible refine r_tt ?_)
  | (with_reducible refine r_tb ?_)
  | (with_reducible refine r_tand ?_)
  | (with_reducible refine r_tor ?_)
  | (with_reducible refine r_tnot ?_)
  | (with_reducible refine r_and ?_)
  | (with_reducible refine r_or ?_)
  | (with_reducible refine r_not ?_)
  | (with_reducible refine r_chain ?_)
  | (with_reducible refine r_bl ?_)
  | (with_reducible refine r_int ?_)
  | (with_reducible refine r_iteT ?_)
  | (with_reducible refine r_iteF ?_)
  | (with_reducible refine r_inT ?_)
  | (with_reducible refine r_inF ?_)
  | (with_reducible refine r_intc ?_)
  | (with_reducible refine r_abs ?_)
  | (with_reducible refine r_lst ?_)
  | (with_reducible refine r_tup ?_)
  | (with_reducible refine r_sl ?_)
  | (with_reducible refine r_nopart ?_)
  | (with_reducible refine r_part ?_)
  | (with_reducible refine r_bm ?_)
  | (with_reducible refine r_bm0 ?_)
  | (with_reducible refine r_m1 ?_)
  | (with_reducible refine r_gsub ?_)
  | (with_reducible refine r_drop ?_)
  | (with_reducible refine r_next ?_)
  | (with_reducible refine r_par ?_)
  | (with_reducible refine r_par3 ?_)
  | (with_reducible refine r_par2 ?_)
  | (with_reducible refine r_fld ?_)
  | (with_reducible refine r_sfld ?_)
  | (with_reducible refine r_make ?_)
  | (with_reducible refine r_strI ?_)
  | (with_reducible refine r_min ?_)
  | (with_reducible refine r_max ?_))
local macro_rules | `(tactic| walk_at "len") => `(tactic| (intro _ _ _ _ h; first | (obtain ⟨e, _⟩ := h; subst e; rfl) | (obtain ⟨_, e, _⟩ := h; subst e; rfl) | (obtain ⟨_, _, e, _⟩ := h; subst e; rfl) | (obtain ⟨_, _, _, e, _⟩ := h; subst e; rfl) | (obtain ⟨_, _, _, _, e, _⟩ := h; subst e; rfl) | (obtain ⟨_, _, _, _, _, e, _⟩ := h; subst e; rfl) | (obtain ⟨_, _, _, _, _, _, e, _⟩ := h; subst e; rfl) | (obtain ⟨_, _, _, _, _, _, _, e, _⟩ := h; subst e; rfl) | (obtain ⟨_, _, _, _, _, _, _, _, e, _⟩ := h; subst e; rfl) | (obtain ⟨_, _, _, _, _, _, _, _, _, e, _⟩ := h; subst e; rfl) | (obtain ⟨_, _, _, _, _, _, _, _, _, _, e, _⟩ := h; subst e; rfl) | (obtain ⟨_, _, _, _, _, _, _, _, _, _, _, e, _⟩ := h; subst e; rfl)))

section
variable {P : Program} {w : World} {K : PySem.W.Frag} {mg : Str → Option Value} {base : Heap}
theorem TupT.sb {b : Addr} {H H' : Hp} {v : V} {tabs : List (List Int)} (s : Sb b H H') (hb : Bx H b) (h : TupT K H v tabs) : TupT K H' v tabs := by
  obtain ⟨a, rs, e, q, r⟩ := h
  exact ⟨a, rs, e, SqT.sb s hb q, Paired.mapP r fun _ _ ⟨c, e, q⟩ => ⟨c, e, SqT.sb s hb q⟩⟩
theorem ne_box {b p : Addr} {H : Hp} {C dx : Addr} {fs : List (Str × V)} (hb : Bx H b) (e : H p = some (.ins C dx fs)) : p ≠ b := by
  rintro rfl
  obtain ⟨g, s, q⟩ := hb
  rw [q] at e; cases e
theorem MachAt.sb {b p : Addr} {H H' : Hp} {tabs : List (List Int)} {n : Nat} (s : Sb b H H') (hb : Bx H b) (h : MachAt K H p tabs n) : MachAt K H' p tabs n := by
  obtain ⟨g, dx, t, e, q⟩ := h
  exact ⟨g, dx, t, s.kp _ _ (ne_box hb e) e, q.sb s hb⟩
theorem LinkAt.sb {b p m : Addr} {H H' : Hp} {a : Nums} {tabs : List (List Int)} {n : Nat} (s : Sb b H H') (hb : Bx H b) (h : LinkAt K H p m a tabs n) : LinkAt K H' p m a tabs n := by
  obtain ⟨g, q, dx, e⟩ := h
  exact ⟨g, q.sb s hb, dx, s.kp _ _ (ne_box hb e) e⟩
/-! the four numbers by place -/
def lo : Nat → Int | 3 => 1 | _ => 0
def mn (n : Int) : Nat → Int | 0 => n | 1 => 13 | _ => 9
def Nums.at_ (a : Nums) : Nat → Int | 0 => a.f | 1 => a.l | 2 => a.o | _ => a.q
def Nums.put (a : Nums) (x : Int) : Nat → Nums | 0 => { a with f := x } | 1 => { a with l := x } | 2 => { a with o := x } | _ => { a with q := x }
theorem lt4 {j : Nat} (h : j < 4) : j = 0 ∨ j = 1 ∨ j = 2 ∨ j = 3 := by omega
theorem nums_at {a : Nums} {j : Nat} (h : j < 4) : (numsOf a)[j]? = some (a.at_ j) := by
  rcases lt4 h with rfl | rfl | rfl | rfl <;> rfl
theorem nums_put {a : Nums} {x : Int} {j : Nat} (h : j < 4) : (numsOf a).set j x = numsOf (a.put x j) := by
  rcases lt4 h with rfl | rfl | rfl | rfl <;> rfl
theorem put_ne {a : Nums} {x : Int} {j : Nat} (h : j < 4) (n : x ≠ a.at_ j) : a ≠ a.put x j := by
  intro e
  apply n
  have := congrArg (fun b : Nums => b.at_ j) e
  rcases lt4 h with rfl | rfl | rfl | rfl <;> exact this.symm
theorem at_bnd {a : Nums} {n j : Nat} (O : NumOk n a) (h : j < 4) : lo j ≤ a.at_ j ∧ a.at_ j < lo j + mn n j := by
  obtain ⟨h1, h2, h3, h4, h5, h6, h7, h8⟩ := O
  rcases lt4 h with rfl | rfl | rfl | rfl <;> simp [lo, mn, Nums.at_] <;> omega
theorem put_ok {a : Nums} {n j : Nat} {x : Int} (O : NumOk n a) (h : j < 4) (h1 : lo j ≤ x) (h2 : x < lo j + mn n j) : NumOk n (a.put x j) := by
  obtain ⟨p1, p2, p3, p4, p5, p6, p7, p8⟩ := O
  rcases lt4 h with rfl | rfl | rfl | rfl <;> simp [lo, mn] at h1 h2 <;> constructor <;> simp [Nums.put] <;> omega
theorem mn_bnd {n j : Nat} (h1 : 1 ≤ n) (h2 : n ≤ 8) : 1 ≤ mn n j ∧ mn n j ≤ 13 := by
  unfold mn
  split <;> omega
theorem copy_eq {ts tabs : List (List Int)} (hl : ts.length = tabs.length) (h : ∀ (i : Nat) (t : List Int), ts[i]? = some t → tabs[i]? = some t) : ts = tabs := by
  refine List.ext_getElem? fun j => ?_
  cases e : ts[j]? with
  | none =>
    have := List.getElem?_eq_none_iff.mp e
    rw [List.getElem?_eq_none (by omega)]
  | some t => rw [h j t e]
theorem ne_ins {p q C dx : Addr} {fs : List (Str × V)} {H : Hp} (e : H p = some (.ins C dx fs)) (h : H q = none) : p ≠ q := by
  rintro rfl
  rw [h] at e; cases e
theorem ne_set {tabs : List (List Int)} {i p : Nat} {t : List Int} {x y : Int} (h : tabs[i]? = some t) (hx : t[p]? = some x) (n : y ≠ x) : tabs ≠ tabs.set i (t.set p y) := by
  intro e
  have e1 := congrArg (fun l => l[i]?) e
  simp only [h] at e1
  rw [List.getElem?_set_self (List.getElem?_eq_some_iff.mp h).1] at e1
  have e2 := congrArg (fun l => l[p]?) (Option.some.inj e1)
  simp only [hx] at e2
  rw [List.getElem?_set_self (List.getElem?_eq_some_iff.mp hx).1] at e2
  exact n (Option.some.inj e2).symm
def sp__law_each_unlike (K : PySem.W.Frag) : Sp := fun vs H Q _ => ∃ (b nl : Addr) (v : V) (tabs : List (List Int)) (n : Nat) (a : Nums), vs = [.ref b, v, .ref nl] ∧ Bx H b ∧ TabB b K H v tabs ∧ Good tabs n ∧ nl ≠ b ∧ SqL K H nl ((numsOf a).map V.int) ∧ NumOk n a ∧
  ∀ H', Sb b H H' → Q (.bl true) H'
theorem ok__law_each_unlike {f : Addr} {fd : FuncData} (F : At K mg "_law_each_unlike" s__law_each_unlike [] [] f fd) (T : Tx K mg) (c_Machine : Cm P w K mg base 6 "Machine" (He.ga K "Machine") (sp_Machine K) []) (c_Link : Cm P w K mg base 5 "Link" (He.ga K "Link") (sp_Link K) []) (c__law_take : Cl P w K mg base 1 "_law_take" (sp__law_take K) []) (c__law_alike : Cl P w K mg base 5 "_law_alike" (sp__law_alike K) []) : Cl P w K mg base 8 "_law_each_unlike" (sp__law_each_unlike K) [] := by
  refine cl_of F sc__law_each_unlike (fun _ _ _ _ _ _ us hl => match us, hl with | [_, _, _], _ => rfl) (by walk_at "len") (fun cdv A outer s H vs Q E hr h => ?_)
  obtain ⟨b, nl, v, tabs, n, a, rfl, hb, hv, G, nnl, hnl, O, k⟩ := h
  have g1 := G.ne
  have g4 := G.few
  have g8 := G.n8
  have gn := G.n1
  obtain ⟨va, vrs, rfl, nva, hvs, hvr⟩ := id hv
  have hvl : vrs.length = tabs.length := paired_len hvr
  obtain ⟨t0, ht0⟩ : ∃ t0, tabs[0]? = some t0 := ⟨_, List.getElem?_eq_getElem (by omega)⟩
  obtain ⟨r0, hr0⟩ : ∃ r0, vrs[0]? = some r0 := ⟨_, List.getElem?_eq_getElem (by omega)⟩
  obtain ⟨t0', e0', b0, rfl, nb0, hb0⟩ := paired_at hvr hr0
  rw [ht0] at e0'
  cases e0'
  have hl0 : t0.length = n := G.len t0 (List.mem_of_getElem? ht0)
  have i0 : ∀ a : Nums, atI ((numsOf a).map V.int) 0 = some (.int a.f) := fun a => atI_nat (j := 0) rfl
  have i1 : ∀ a : Nums, atI ((numsOf a).map V.int) 1 = some (.int a.l) := fun a => atI_nat (j := 1) rfl
  have i2 : ∀ a : Nums, atI ((numsOf a).map V.int) 2 = some (.int a.o) := fun a => atI_nat (j := 2) rfl
  have i3 : ∀ a : Nums, atI ((numsOf a).map V.int) 3 = some (.int a.q) := fun a => atI_nat (j := 3) rfl
  refine ⟨_, (pss_cons (ps_par (i := 3) (j := 4) rfl sc__law_each_unlike.nd rfl rfl (by decide) rfl rfl (pa_cons (pmk c_Machine hr (by decide) rfl (pa_cons (pv 1) pa_nil)) (pa_cons (pe_callB (kLen K) rfl T.b_len (by decide +kernel) (pa_cons (pe_ix (kIx K) (pv 1) pe_int (fun _ _ => rfl)) pa_nil)) pa_nil)) rfl)
      (pss_cons (ps_set (i := 5) sc__law_each_unlike.nd rfl (Or.inl rfl) (pmk c_Link hr (by decide) rfl (pa_cons (pv 3) (pa_cons (pe_ix (kIx K) (pv 2) pe_int (fun _ _ => rfl)) (pa_cons (pe_ix (kIx K) (pv 2) pe_int (fun _ _ => rfl)) (pa_cons (pe_ix (kIx K) (pv 2) pe_int (fun _ _ => rfl)) (pa_cons (pe_ix (kIx K) (pv 2) pe_int (fun _ _ => rfl)) pa_nil)))))))
      (pss_cons (ps_for PassesOwn.never rfl (pi_range1 rfl T.b_range (pa_cons (pe_ifExp (pt_cmpR op_gt (pv 4) pe_int (nomark _)) (pe_callB (kLen K) rfl T.b_len (by decide +kernel) (pa_cons (pv 1) pa_nil)) pe_int) pa_nil)) (pg_name (i := 6) sc__law_each_unlike.nd rfl (Or.inl rfl))
      (pss_cons (ps_par (i := 7) (j := 8) rfl sc__law_each_unlike.nd rfl rfl (by decide) rfl rfl (pa_cons (pe_lc (own := [("table", 13)]) (g := gName 13) (tt := tYes) rfl sc__law_each_unlike.nd  (kSeq K (pv 1)) (blkOk_by (by kernel_rfl)) (fun _ _ _ _ _ => (pg_name (i := 13) sc__law_each_unlike.nd rfl (Or.inl rfl))) (fun _ _ _ _ _ => pts_nil) (fun _ _ _ _ _ => (pe_callTy (kList K) rfl T.b_list (by decide +kernel) (pa_cons (pv 13) pa_nil)))) (pa_cons (pcl c__law_take hr (by decide) rfl (pa_cons (pv 0) (pa_cons (pv 4) pa_nil))) pa_nil)) rfl)
      (pss_cons (ps_set (i := 9) sc__law_each_unlike.nd rfl (Or.inl rfl) (pe_ix (kIx K) (pv 7) (pv 6) (fun _ _ => rfl)))
      (pss_cons (ps_asg (pe_op op_mod (pe_callTy call_intU rfl T.b_int (by decide +kernel) (pa_cons (pe_op (kAdd K) (pe_op (kAdd K) (pe_ix (kIx K) (pv 9) (pv 8) (fun _ _ => rfl)) pe_int) (pcl c__law_take hr (by decide) rfl (pa_cons (pv 0) (pa_cons (pe_op op_sub (pv 4) pe_int) pa_nil)))) pa_nil)) (pv 4)) (pg_sub (pv 9) (pv 8) set_list))
      (pss_cons (ps_set (i := 10) sc__law_each_unlike.nd rfl (Or.inl rfl) (pmk c_Machine hr (by decide) rfl (pa_cons (pv 7) pa_nil)))
      (pss_one (ps_if (PW.pt (pw_or (pt_not (pt_val (pcl c__law_alike hr (by decide) rfl (pa_cons (pv 3) (pa_cons (pv 10) (pa_cons pe_bl pa_nil)))))) (pw_or1 (pt_not (pt_val (pcl c__law_alike hr (by decide) rfl (pa_cons (pv 5) (pa_cons (pmk c_Link hr (by decide) rfl (pa_cons (pv 10) (pa_cons (pe_ix (kIx K) (pv 2) pe_int (fun _ _ => rfl)) (pa_cons (pe_ix (kIx K) (pv 2) pe_int (fun _ _ => rfl)) (pa_cons (pe_ix (kIx K) (pv 2) pe_int (fun _ _ => rfl)) (pa_cons (pe_ix (kIx K) (pv 2) pe_int (fun _ _ => rfl)) pa_nil)))))) (pa_cons pe_bl pa_nil))))))))) (pss_one (ps_ret pe_bl)) pss_nil)))))))
      (pss_cons (ps_for PassesOwn.never rfl (kSeq K (pe_lst (pa_cons (pe_tup (pa_cons pe_int (pa_cons pe_int (pa_cons (pv 4) pa_nil)))) (pa_cons (pe_tup (pa_cons pe_int (pa_cons pe_int (pa_cons pe_int pa_nil)))) (pa_cons (pe_tup (pa_cons pe_int (pa_cons pe_int (pa_cons pe_int pa_nil)))) (pa_cons (pe_tup (pa_cons pe_int (pa_cons pe_int (pa_cons pe_int pa_nil)))) pa_nil)))))) (pg_tup rfl (pgs_cons (pg_name (i := 6) sc__law_each_unlike.nd rfl (Or.inl rfl)) (pgs_cons (pg_name (i := 11) sc__law_each_unlike.nd rfl (Or.inl rfl)) (pgs_cons (pg_name (i := 12) sc__law_each_unlike.nd rfl (Or.inl rfl)) pgs_nil))))
      (pss_cons (ps_set (i := 7) sc__law_each_unlike.nd rfl (Or.inl rfl) (pe_callTy (kList K) rfl T.b_list (by decide +kernel) (pa_cons (pv 2) pa_nil)))
      (pss_one (ps_if (pt_cmpR op_gt (pv 12) pe_int (nomark _)) (pss_cons (ps_asg (pe_op (kAdd K) (pv 11) (pe_op op_mod (pe_callTy call_intU rfl T.b_int (by decide +kernel) (pa_cons (pe_op (kAdd K) (pe_op (kAdd K) (pe_op op_sub (pe_ix (kIx K) (pv 7) (pv 6) (fun _ _ => rfl)) (pv 11)) pe_int) (pcl c__law_take hr (by decide) rfl (pa_cons (pv 0) (pa_cons (pe_op op_sub (pv 12) pe_int) pa_nil)))) pa_nil)) (pv 12))) (pg_sub (pv 7) (pv 6) set_list))
      (pss_one (ps_if (pt_not (pt_val (pcl c__law_alike hr (by decide) rfl (pa_cons (pv 5) (pa_cons (pmk c_Link hr (by decide) rfl (pa_cons (pv 3) (pa_cons (pe_ix (kIx K) (pv 7) pe_int (fun _ _ => rfl)) (pa_cons (pe_ix (kIx K) (pv 7) pe_int (fun _ _ => rfl)) (pa_cons (pe_ix (kIx K) (pv 7) pe_int (fun _ _ => rfl)) (pa_cons (pe_ix (kIx K) (pv 7) pe_int (fun _ _ => rfl)) pa_nil)))))) (pa_cons pe_bl pa_nil)))))) (pss_one (ps_ret pe_bl)) pss_nil))) pss_nil))))
      (pss_one (ps_ret pe_bl)))))), ?_⟩
  repeat walk_at "s"
  refine made_machine hv.tab G fun m H1 s1 hm hm1 => ?_
  repeat walk_at "s"
  refine r_ixQ (hvs.same s1) (atI_nat hr0) ?_
  repeat walk_at "s"
  refine r_lenQ (hb0.same s1) ?_
  rw [List.length_map, hl0]
  repeat walk_at "s"
  have hn1 := SqL.ext hnl s1
  refine r_ixL hn1 (i0 a) ?_
  repeat walk_at "s"
  refine r_ixL hn1 (i1 a) ?_
  repeat walk_at "s"
  refine r_ixL hn1 (i2 a) ?_
  repeat walk_at "s"
  refine r_ixL hn1 (i3 a) ?_
  repeat walk_at "s"
  refine made_link hm1 O fun y H2 s2 hy hy2 => ?_
  have s02 := s1.trans s2
  have sb02 : Sb b H H2 := Sb.of s02
  have hb2 := hb.same s02
  have hm2 := hm1.same s2
  repeat walk_at "s"
  refine r_for_rest (fun σ' H' => ∃ x1 x2 x3 x4 x5 x6 x7, σ' = [some (.ref b), some (.ref va), some (.ref nl), some (.ref m), some (.int n), some (.ref y), x1, x2, x3, x4, x5, x6, x7, none] ∧ Sb b H2 H') ?_ (fun rest => r_for (r_rng1 ?_))
  · rintro σ' H3 ⟨x1, x2, x3, x4, x5, x6, x7, rfl, s3⟩
    have hb3 := s3.bx hb2
    have s03 := sb02.trans s3
    have hm3 := hm2.sb s3 hb2
    have hy3 := hy2.sb s3 hb2
    repeat walk_at "s"
    refine r_for (r_iseqM ?_)
    repeat walk_at "s"
    refine ⟨szl (by simp), fun p0 hp0 => ?_⟩
    repeat walk_at "s"
    refine ⟨szl (by simp), fun p1 hp1 => ?_⟩
    repeat walk_at "s"
    refine ⟨szl (by simp), fun p2 hp2 => ?_⟩
    repeat walk_at "s"
    refine ⟨szl (by simp), fun p3 hp3 => ?_⟩
    repeat walk_at "s"
    refine ⟨szl (by simp), fun pl hpl => ?_⟩
    have sa := same_upd (o := .tup [.int 0, .int 0, .int n]) hp0
    have sb := same_upd (o := .tup [.int 1, .int 0, .int 13]) hp1
    have sc := same_upd (o := .tup [.int 2, .int 0, .int 9]) hp2
    have sd := same_upd (o := .tup [.int 3, .int 1, .int 9]) hp3
    have se := same_upd (o := .lst [.ref p0, .ref p1, .ref p2, .ref p3]) hpl
    have s3L := (((sa.trans sb).trans sc).trans sd).trans se
    have items : ∀ (j : Nat) (x : V), [V.ref p0, .ref p1, .ref p2, .ref p3][j]? = some x → ∃ p, x = .ref p ∧ (upd (upd (upd (upd (upd H3 p0 (.tup [.int 0, .int 0, .int n])) p1 (.tup [.int 1, .int 0, .int 13])) p2 (.tup [.int 2, .int 0, .int 9])) p3 (.tup [.int 3, .int 1, .int 9])) pl (.lst [.ref p0, .ref p1, .ref p2, .ref p3])) p = some (.tup [.int j, .int (lo j), .int (mn n j)]) := by
      intro j x hx
      have hj : j < 4 := (List.getElem?_eq_some_iff.mp hx).1
      rcases lt4 hj with rfl | rfl | rfl | rfl
      · cases hx; exact ⟨p0, rfl, se _ _ (sd _ _ (sc _ _ (sb _ _ upd_same)))⟩
      · cases hx; exact ⟨p1, rfl, se _ _ (sd _ _ (sc _ _ upd_same))⟩
      · cases hx; exact ⟨p2, rfl, se _ _ (sd _ _ upd_same)⟩
      · cases hx; exact ⟨p3, rfl, se _ _ upd_same⟩
    have hbL := hb3.same s3L
    have npl : pl ≠ b := (hb3.same (((sa.trans sb).trans sc).trans sd)).ne hpl
    have hmL := hm3.same s3L
    have hyL := hy3.same s3L
    have s0L := s03.trans (Sb.of s3L)
    repeat walk_at "s"
    refine r_itlX (SqL.of upd_same) fun wk => ?_
    refine for_ask wk (fun i σ H' => ∃ x1 x2 x3 x4 x5 x6 x7, σ = [some (.ref b), some (.ref va), some (.ref nl), some (.ref m), some (.int n), some (.ref y), x1, x2, x3, x4, x5, x6, x7, none] ∧ Sb b (upd (upd (upd (upd (upd H3 p0 (.tup [.int 0, .int 0, .int n])) p1 (.tup [.int 1, .int 0, .int 13])) p2 (.tup [.int 2, .int 0, .int 9])) p3 (.tup [.int 3, .int 1, .int 9])) pl (.lst [.ref p0, .ref p1, .ref p2, .ref p3])) H')
      ⟨_, _, _, _, _, _, _, rfl, Sb.refl _⟩ (fun i σ H' _ ⟨_, _, _, _, _, _, _, _, s⟩ => SqL.sb s npl (SqL.of upd_same)) ?_ ?_
    · rintro j x σ H4 H5 hi ⟨x1, x2, x3, x4, x5, x6, x7, rfl, s4⟩ ⟨rfl, hx⟩
      have hj : j < 4 := hi
      obtain ⟨p, rfl, hp⟩ := items j x hx
      have hb5 := s4.bx hbL
      have np : p ≠ b := by
        rintro rfl
        obtain ⟨g, z, q⟩ := hbL
        rw [hp] at q; cases q
      have hp5 := s4.kp _ _ np hp
      have hm5 := hmL.sb s4 hbL
      have hy5 := hyL.sb s4 hbL
      have hn5 := SqL.sb (s0L.trans s4) nnl hnl
      have hmb := mn_bnd (j := j) gn g8
      have hab := at_bnd O hj
      refine r_gtripT (SqT.of hp5) ?_
      repeat walk_at "s"
      refine r_list (.inl hn5) fun l hl => ?_
      have s5 := same_upd (o := .lst ((numsOf a).map V.int)) hl
      have hb6 := hb5.same s5
      have nlb : l ≠ b := hb5.ne hl
      repeat walk_at "s"
      refine r_dec (fun hmm => ?_) (fun hmm => ?_)
      · repeat walk_at "s"
        refine r_ixL (SqL.of upd_same) (v := V.int (a.at_ j)) (atI_nat (by rw [List.getElem?_map, nums_at hj]; rfl)) ?_
        repeat walk_at "s"
        refine ⟨b, mn n j - 1, rfl, hb6, by omega, by omega, fun r H6 s6 r0 r1 => ?_⟩
        repeat walk_at "s"
        refine r_I (by omega) ?_
        repeat walk_at "s"
        have hl6 := s6.kp _ _ nlb upd_same
        refine r_setL hl6 (j := j) (ixN_nat (by simp [numsOf]; omega)) ?_
        rw [← List.map_set, nums_put hj]
        have hxe := turn_ne (x := a.at_ j - lo j) (n := mn n j) (by omega) (by omega) r0 r1
        have hx0 := Int.emod_nonneg (a.at_ j - lo j + 1 + r) (b := mn n j) (by omega)
        have hx1 := Int.emod_lt_of_pos (a.at_ j - lo j + 1 + r) (b := mn n j) (by omega)
        revert hxe hx0 hx1
        generalize (a.at_ j - lo j + 1 + r) % mn n j = z
        intro hxe hx0 hx1
        have O' := put_ok (x := lo j + z) O hj (by omega) (by omega)
        have hne := put_ne (a := a) (x := lo j + z) hj (by omega)
        have s47 : Sb b H5 (upd H6 l (.lst ((numsOf (a.put (lo j + z) j)).map V.int))) := ((Sb.of s5).trans s6).upd hb5 hl
        repeat walk_at "s"
        refine r_ixL (SqL.of upd_same) (i0 _) ?_
        repeat walk_at "s"
        refine r_ixL (SqL.of upd_same) (i1 _) ?_
        repeat walk_at "s"
        refine r_ixL (SqL.of upd_same) (i2 _) ?_
        repeat walk_at "s"
        refine r_ixL (SqL.of upd_same) (i3 _) ?_
        repeat walk_at "s"
        have hm7 := hm5.sb s47 hb5
        have hy7 := hy5.sb s47 hb5
        refine made_link hm7 O' fun y' H8 s8 hy' hy8 => ?_
        obtain ⟨dq, fq, hq⟩ := hy7.ins
        repeat walk_at "s"
        refine ⟨y, y', false, rfl, ne_ins hq hy', .inr ⟨m, m, a, _, tabs, tabs, n, n, hy7.same s8, hy8, by simp [hne]⟩, fun H9 s9 => ?_⟩
        repeat walk_at "s"
        exact ⟨_, _, _, _, _, _, _, rfl, s4.trans (s47.trans (Sb.of (s8.trans s9)))⟩
      · repeat walk_at "s"
        exact ⟨_, _, _, _, _, _, _, rfl, s4.trans (Sb.of s5)⟩
    · rintro σ H4 ⟨x1, x2, x3, x4, x5, x6, x7, rfl, s4⟩
      repeat walk_at "s"
      exact k _ (s0L.trans s4)
  · repeat walk_at "s"
    refine r_dec (fun h1n => ?_) (fun h1n => ?_)
    · repeat walk_at "s"
      refine r_lenQ (hvs.same s02) ?_
      repeat walk_at "s"
      rw [hvl]
      refine ⟨_, rfl, by omega, by omega, ?_⟩
      refine for_ask walk_range (fun i σ H' => ∃ x1 x2 x3 x4 x5, σ = [some (.ref b), some (.ref va), some (.ref nl), some (.ref m), some (.int n), some (.ref y), x1, x2, x3, x4, x5, none, none, none] ∧ Sb b H2 H') ⟨_, _, _, _, _, rfl, Sb.refl _⟩ (fun _ _ _ _ _ => trivial) ?_ ?_
      · rintro i x σ H30 H3 hi ⟨x1, x2, x3, x4, x5, rfl, s3⟩ ⟨rfl, rfl⟩
        have hi : i < tabs.length := hi
        have hb3 := s3.bx hb2
        have s03 := sb02.trans s3
        have hm3 := hm2.sb s3 hb2
        have hy3 := hy2.sb s3 hb2
        have hvs3 := Sq.sb s03 hb nva hvs
        repeat walk_at "s"
        refine r_lc (r_iseqB hb3 nva hvs3 rfl fun J Gd hG wk D hD => ?_)
        refine lc_rows (fun i t => tabs[i]? = some t) [] (by simp) wk hb3 hD (by omega) hG ?_ ?_
        · rintro i x H' H'' hi s1 hb1 ⟨rfl, hx⟩ N1 kN
          obtain ⟨t, ht, c, rfl, nc, hc⟩ := paired_at hvr hx
          repeat walk_at "s"
          exact r_list (Sq.sb (s03.trans s1) hb nc hc) fun l hl => kN l t _ (Sb.of (same_upd hl)) hl upd_same ht
        intro H4 fs ts s4 hb4 hD4 hw hfr hl hR
        have e := copy_eq (by omega) hR
        subst e
        have hlf : fs.length = ts.length := hw.len
        have nD := hb3.ne hD
        repeat walk_at "s"
        refine ⟨b, n, rfl, hb4, by omega, by omega, fun place H5 s5 p0 p1 => ?_⟩
        have hb5 := s5.bx hb4
        obtain ⟨p, rfl⟩ : ∃ j : Nat, place = (j : Int) := ⟨place.toNat, by omega⟩
        obtain ⟨t, ht⟩ : ∃ t, ts[i]? = some t := ⟨_, List.getElem?_eq_getElem hi⟩
        have hlt := G.len t (List.mem_of_getElem? ht)
        obtain ⟨x, hx⟩ : ∃ x, t[p]? = some x := ⟨_, List.getElem?_eq_getElem (by omega)⟩
        have hxb := G.bnd t (List.mem_of_getElem? ht) x (List.mem_of_getElem? hx)
        have hw5 := hw.sb s5 (by simp)
        obtain ⟨c, hc, nc, hc5⟩ := hw5.get ht
        have hcf := hfr c (List.mem_of_getElem? hc)
        have hD5 := s5.kp _ _ nD hD4
        repeat walk_at "s"
        refine r_ixL (SqL.of hD5) (by rw [Int.zero_add]; exact atI_nat (j := i) hc) ?_
        repeat walk_at "s"
        refine r_ixL (SqL.of hc5) (v := V.int x) (atI_nat (by rw [List.getElem?_map, hx]; rfl)) ?_
        repeat walk_at "s"
        refine ⟨b, n - 1, rfl, hb5, by omega, by omega, fun r H6 s6 r0 r1 => ?_⟩
        have hc6 := s6.kp _ _ (fun e => nc (by simp [e])) hc5
        repeat walk_at "s"
        refine r_I (by omega) ?_
        repeat walk_at "s"
        refine r_setL hc6 (j := p) (ixN_nat (by simp; omega)) ?_
        rw [← List.map_set]
        have hxe := turn_ne (x := x) (n := n) (by omega) (by omega) r0 r1
        have hx0 := Int.emod_nonneg (x + 1 + r) (b := (n : Int)) (by omega)
        have hx1 := Int.emod_lt_of_pos (x + 1 + r) (b := (n : Int)) (by omega)
        revert hxe hx0 hx1
        generalize (x + 1 + r) % (n : Int) = z
        intro hxe hx0 hx1
        have G' := G.set (p := p) ht hx0 hx1
        have hne := ne_set ht hx hxe
        have nDc : D ≠ c := fun e => nc (by simp [← e])
        have htab : TabB b K (upd H6 c (.lst ((t.set p z).map V.int))) (.ref D) (ts.set i (t.set p z)) := TabB.of ((hw5.sb s6 (by simp)).set hc) (by simp) nD (by rw [upd_ne nDc]; exact s6.kp _ _ nD hD5)
        have s37 : Sb b H3 (upd H6 c (.lst ((t.set p z).map V.int))) := (s4.trans (s5.trans s6)).upd hb3 hcf
        have hm7 := hm3.sb s37 hb3
        have hy7 := hy3.sb s37 hb3
        have hn7 := SqL.sb (s03.trans s37) nnl hnl
        repeat walk_at "s"
        refine made_machine htab.tab G' fun m' H8 s8 hm' hm8 => ?_
        obtain ⟨dm, fm, hmi⟩ := hm7.ins
        obtain ⟨dy, fy, hyi⟩ := hy7.ins
        repeat walk_at "s"
        refine ⟨m, m', false, rfl, ne_ins hmi hm', .inl ⟨ts, _, n, n, hm7.same s8, hm8, by simp [hne]⟩, fun H9 s9 => ?_⟩
        have s79 := s8.trans s9
        have hn9 := SqL.ext hn7 s79
        repeat walk_at "s"
        refine r_ixL hn9 (i0 a) ?_
        repeat walk_at "s"
        refine r_ixL hn9 (i1 a) ?_
        repeat walk_at "s"
        refine r_ixL hn9 (i2 a) ?_
        repeat walk_at "s"
        refine r_ixL hn9 (i3 a) ?_
        repeat walk_at "s"
        refine made_link (hm8.same s9) O fun y' H10 s10 hy' hy10 => ?_
        repeat walk_at "s"
        refine ⟨y, y', false, rfl, ne_ins (s79 _ _ hyi) hy', .inr ⟨m, m', a, a, ts, _, n, n, hy7.same (s79.trans s10), hy10, by simp [hne]⟩, fun H11 s11 => ?_⟩
        repeat walk_at "s"
        exact ⟨_, _, _, _, _, rfl, s3.trans (s37.trans (Sb.of ((s79.trans s10).trans s11)))⟩
      · rintro σ H3 ⟨x1, x2, x3, x4, x5, rfl, s3⟩
        exact rest _ _ ⟨_, _, _, _, _, _, _, rfl, s3⟩
    · repeat walk_at "s"
      refine ⟨_, rfl, by omega, by omega, ?_⟩
      exact for_ask walk_range (fun i σ H' => σ = _ ∧ H' = H2) ⟨rfl, rfl⟩ (fun _ _ _ _ _ => trivial) (fun i x σ H3 H4 hi _ _ => absurd hi (by simp)) (fun σ H3 ⟨e1, e2⟩ => rest _ _ ⟨none, none, none, none, none, none, none, e1, e2 ▸ Sb.refl _⟩)
end
end P45

namespace P45
open PySem PySem.Spec PyProof.Rows L2 Pg
local macro_rules | `(tactic| walk_at "s") => `(tactic| first
  | ((with_reducible refine r_var (v := ?v) ?h ?q); case h => rfl)
  | (with_reducible refine r_c ?_)
  | (with_reducible refine r_op ?_)
  | (with_reducible refine r_un ?_)
  | (with_reducible refine r_I0 ?_)
  | (with_reducible refine r_U ?_)
  | (with_reducible refine r_addI ?_)
  | (with_reducible refine r_eqI ?_)
  | (with_reducible refine r_neI ?_)
  | (with_reducible refine r_eqT ?_)
  | (with_reducible refine r_neT ?_)
  | (with_reducible refine r_seq ?_)
  | (with_reducible refine r_asg ?_)
  | ((with_reducible refine r_name (σ' := ?s) ?h ?q); case h => (simp only [List.set_cons_zero, List.set_cons_succ, L2.start, List.map_cons, List.map_nil, List.length_cons, List.length_nil, List.cons_append, List.nil_append, List.replicate_succ, List.replicate_zero, Nat.reduceAdd, Nat.reduceSub]; rfl))
  | (with_reducible refine r_cons ?_)
  | (with_reducible refine r_nil ?_)
  | (with_reducible refine r_call ?_)
  | (with_reducible refine r_cb ?_)
  | (with_reducible refine r_ret ?_)
  | (with_reducible refine r_retN ?_)
  | (with_reducible refine r_ifs ?_)
  | (with_reducible refine r_if ?_)
  | (with_reducible refine r_tt ?_)
  | (with_reducible refine r_tb ?_)
  | (with_reducible refine r_tand ?_)
  | (with_reducible refine r_tor ?_)
  | (with_reducible refine r_tnot ?_)
  | (with_reducible refine r_and ?_)
  | (with_reducible refine r_or ?_)
  | (with_reducible refine r_not ?_)
  | (with_reducible refine r_chain ?_)
  | (with_reducible refine r_bl ?_)
  | (with_reducible refine r_int ?_)
  | (with_reducible refine r_iteT ?_)
  | (with_reducible refine r_iteF ?_)
  | (with_reducible refine r_inT ?_)
  | (with_reducible refine r_inF ?_)
  | (with_reducible refine r_intc ?_)
  | (with_reducible refine r_abs ?_)
  | (with_reducible refine r_lst ?_)
  | (with_reducible refine r_tup ?_)
  | (with_reducible refine r_sl ?_)
  | (with_reducible refine r_nopart ?_)
  | (with_reducible refine r_part ?_)
  | (with_reducible refine r_bm ?_)
  | (with_reducible refine r_bm0 ?_)
  | (with_reducible refine r_m1 ?_)
  | (with_reducible refine r_gsub ?_)
  | (with_reducible refine r_drop ?_)
  | (with_reducible refine r_next ?_)
  | (with_reducible refine r_par ?_)
  | (with_reducible refine r_par3 ?_)
  | (with_reducible refine r_par2 ?_)
  | (with_reducible refine r_fld ?_)
  | (with_reducible refine r_sfld ?_)
  | (with_reducible refine r_make ?_)
  | (with_reducible refine r_strI ?_)
  | (with_reducible refine r_min ?_)
  | (with_reducible refine r_max ?_))
local macro_rules | `(tactic| walk_at "n") => `(tactic| first
  | ((with_reducible refine r_var (v := ?v) ?h ?q); case h => rfl)
  | (with_reducible refine r_c ?_)
  | (with_reducible refine r_op ?_)
  | (with_reducible refine r_un ?_)
  | (with_reducible refine r_I0 ?_)
  | (with_reducible refine r_U ?_)
  | (with_reducible refine r_addI ?_)
  | (with_reducible refine r_eqI ?_)
  | (with_reducible refine r_neI ?_)
  | (with_reducible refine r_eqT ?_)
  | (with_reducible refine r_neT ?_)
  | (with_reducible refine r_asg ?_)
  | ((with_reducible refine r_name (σ' := ?s) ?h ?q); case h => (simp only [List.set_cons_zero, List.set_cons_succ, L2.start, List.map_cons, List.map_nil, List.length_cons, List.length_nil, List.cons_append, List.nil_append, List.replicate_succ, List.replicate_zero, Nat.reduceAdd, Nat.reduceSub]; rfl))
  | (with_reducible refine r_cons ?_)
  | (with_reducible refine r_nil ?_)
  | (with_reducible refine r_call ?_)
  | (with_reducible refine r_cb ?_)
  | (with_reducible refine r_ret ?_)
  | (with_reducible refine r_retN ?_)
  | (with_reducible refine r_ifs ?_)
  | (with_reducible refine r_if ?_)
  | (with_reducible refine r_tt ?_)
  | (with_reducible refine r_tb ?_)
  | (with_reducible refine r_tand ?_)
  | (with_reducible refine r_tor ?_)
  | (with_reducible refine r_tnot ?_)
  | (with_reducible refine r_and ?_)
  | (with_reducible refine r_or ?_)
  | (with_reducible refine r_not ?_)
  | (with_reducible refine r_chain ?_)
  | (with_reducible refine r_bl ?_)
  | (with_reducible refine r_int ?_)
  | (with_reducible refine r_iteT ?_)
  | (with_reducible refine r_iteF ?_)
  | (with_reducible refine r_inT ?_)
  | (with_reducible refine r_inF ?_)
  | (with_reducible refine r_intc ?_)
  | (with_reducible refine r_abs ?_)
  | (with_reducible refine r_lst ?_)
  | (with_reducible refine r_tup ?_)
  | (with_reducible refine r_sl ?_)
  | (with_reducible refine r_nopart ?_)
  | (with_reducible refine r_part ?_)
  | (with_reducible refine r_bm ?_)
  | (with_reducible refine r_bm0 ?_)
  | (with_reducible refine r_m1 ?_)
  | (with_reducible refine r_gsub ?_)
  | (with_reducible refine r_drop ?_)
  | (with_reducible refine r_next ?_)
  | (with_reducible refine r_par ?_)
  | (with_reducible refine r_par3 ?_)
  | (with_reducible refine r_par2 ?_)
  | (with_reducible refine r_fld ?_)
  | (with_reducible refine r_sfld ?_)
  | (with_reducible refine r_make ?_)
  | (with_reducible refine r_strI ?_)
  | (with_reducible refine r_min ?_)
  | (with_reducible refine r_max ?_))
local macro_rules | `(tactic| walk_at "len") => `(tactic| (intro _ _ _ _ h; first | (obtain ⟨e, _⟩ := h; subst e; rfl) | (obtain ⟨_, e, _⟩ := h; subst e; rfl) | (obtain ⟨_, _, e, _⟩ := h; subst e; rfl) | (obtain ⟨_, _, _, e, _⟩ := h; subst e; rfl) | (obtain ⟨_, _, _, _, e, _⟩ := h; subst e; rfl) | (obtain ⟨_, _, _, _, _, e, _⟩ := h; subst e; rfl) | (obtain ⟨_, _, _, _, _, _, e, _⟩ := h; subst e; rfl) | (obtain ⟨_, _, _, _, _, _, _, e, _⟩ := h; subst e; rfl) | (obtain ⟨_, _, _, _, _, _, _, _, e, _⟩ := h; subst e; rfl) | (obtain ⟨_, _, _, _, _, _, _, _, _, e, _⟩ := h; subst e; rfl) | (obtain ⟨_, _, _, _, _, _, _, _, _, _, e, _⟩ := h; subst e; rfl) | (obtain ⟨_, _, _, _, _, _, _, _, _, _, _, e, _⟩ := h; subst e; rfl)))

section
variable {P : Program} {w : World} {K : PySem.W.Frag} {mg : Str → Option Value} {base : Heap}
theorem SqL.new {a b : Addr} {xs : List V} {H H1 H2 : Hp} (hb : H b = none) (s : Same H H1) (t : Sb b H1 H2) (h : SqL K H a xs) : SqL K H2 a xs := by
  rcases h with (h | ⟨o, h⟩) | h
  · exact .inl (.inl (t.kp _ _ (ne_of_none h hb) (s _ _ h)))
  · exact .inl (.inr ⟨o, t.kp _ _ (ne_of_none h hb) (s _ _ h)⟩)
  · exact .inr h
def sp_law (K : PySem.W.Frag) : Sp := fun vs H Q _ => ∃ (a : Addr) (ns : List Int), vs = [.ref a] ∧ SqL K H a (ns.map V.int) ∧ ∀ H', Q (.bl true) H'
theorem ok_law {f : Addr} {fd : FuncData} (F : At K mg "law" s_law [] [] f fd) (T : Tx K mg) (c__law_box : Cl P w K mg base 1 "_law_box" (sp__law_box K) []) (c__law_take : Cl P w K mg base 1 "_law_take" (sp__law_take K) []) (c__law_tables : Cl P w K mg base 2 "_law_tables" (sp__law_tables K) []) (c__law_turned : Cl P w K mg base 2 "_law_turned" (sp__law_turned K) []) (c__law_tuples : Cl P w K mg base 1 "_law_tuples" (sp__law_tuples K) []) (c_Machine : Cm P w K mg base 6 "Machine" (He.ga K "Machine") (sp_Machine K) []) (c_Link : Cm P w K mg base 5 "Link" (He.ga K "Link") (sp_Link K) []) (c__law_alike : Cl P w K mg base 5 "_law_alike" (sp__law_alike K) []) (c__law_read_right : Cl P w K mg base 10 "_law_read_right" (sp__law_read_right K) []) (c_read_machine : Cl P w K mg base 9 "read_machine" (sp_read_machine K) []) (c__law_text : Cl P w K mg base 2 "_law_text" (sp__law_text K) []) (c__law_each_unlike : Cl P w K mg base 8 "_law_each_unlike" (sp__law_each_unlike K) []) (c__law_same : Cl P w K mg base 4 "_law_same" (spSame K 4) []) (e_Machine : EqOf P w K mg base 1 (He.ga K "Machine") (sp_Machine___eq__ K)) (e_Link : EqOf P w K mg base 3 (He.ga K "Link") (sp_Link___eq__ K)) : FnOk P w K mg base (L2.CX P w) 11 f fd ["script"] (sp_law K) := by
  refine fn_of' F sc_law (by walk_at "len") (fun cdv A outer s H vs Q E hr h => ?_)
  obtain ⟨sa, ns, rfl, hs, k⟩ := h
  refine ⟨_, (pss_cons (ps_for PassesOwn.never rfl (pi_range1 rfl T.b_range (pa_cons pe_int pa_nil)) (pg_name (i := 1) sc_law.nd rfl (Or.inl rfl))
      (pss_cons (ps_set (i := 2) sc_law.nd rfl (Or.inl rfl) (pcl c__law_box hr (by decide) rfl (pa_cons (pv 0) (pa_cons (pv 1) pa_nil))))
      (pss_cons (ps_set (i := 3) sc_law.nd rfl (Or.inl rfl) (pcl c__law_tables hr (by decide) rfl (pa_cons (pv 2) (pa_cons (pe_op (kAdd K) pe_int (pcl c__law_take hr (by decide) rfl (pa_cons (pv 2) (pa_cons pe_int pa_nil)))) (pa_cons (pe_op (kAdd K) pe_int (pcl c__law_take hr (by decide) rfl (pa_cons (pv 2) (pa_cons pe_int pa_nil)))) pa_nil)))))
      (pss_cons (ps_par (i := 4) (j := 5) rfl sc_law.nd rfl rfl (by decide) rfl rfl (pa_cons (pcl c__law_turned hr (by decide) rfl (pa_cons (pv 2) (pa_cons (pv 3) pa_nil))) (pa_cons (pe_lst (pa_cons (pcl c__law_take hr (by decide) rfl (pa_cons (pv 2) (pa_cons (pe_callB (kLen K) rfl T.b_len (by decide +kernel) (pa_cons (pe_ix (kIx K) (pv 3) pe_int (fun _ _ => rfl)) pa_nil)) pa_nil))) (pa_cons (pcl c__law_take hr (by decide) rfl (pa_cons (pv 2) (pa_cons pe_int pa_nil))) (pa_cons (pcl c__law_take hr (by decide) rfl (pa_cons (pv 2) (pa_cons pe_int pa_nil))) (pa_cons (pe_op (kAdd K) pe_int (pcl c__law_take hr (by decide) rfl (pa_cons (pv 2) (pa_cons pe_int pa_nil)))) pa_nil))))) pa_nil)) rfl)
      (pss_cons (ps_set (i := 6) sc_law.nd rfl (Or.inl rfl) (pe_cmpR (kEq K hr) (pcl c__law_tuples hr (by decide) rfl (pa_cons (pv 3) pa_nil)) (pcl c__law_tuples hr (by decide) rfl (pa_cons (pv 4) pa_nil)) (nomark _)))
      (pss_cons (ps_par (i := 7) (j := 8) rfl sc_law.nd rfl rfl (by decide) rfl rfl (pa_cons (pmk c_Machine hr (by decide) rfl (pa_cons (pv 3) pa_nil)) (pa_cons (pmk c_Machine hr (by decide) rfl (pa_cons (pcl c__law_tuples hr (by decide) rfl (pa_cons (pv 4) pa_nil)) pa_nil)) pa_nil)) rfl)
      (pss_cons (ps_if (PW.pt (pw_or (pt_not (pt_val (pcl c__law_alike hr (by decide) rfl (pa_cons (pv 7) (pa_cons (pv 8) (pa_cons (pv 6) pa_nil)))))) (pw_or (pt_not (pt_val (pcl c__law_read_right hr (by decide) rfl (pa_cons (pv 3) (pa_cons (pv 5) pa_nil))))) (pw_or1 (pt_not (pt_val (pcl c__law_read_right hr (by decide) rfl (pa_cons (pv 4) (pa_cons (pe_op (kAdd K) (pe_lst (pa_cons pe_int pa_nil)) (pe_slice (kSl K) (pv 5) (po_some pe_int) po_none)) pa_nil))))))))) (pss_one (ps_ret pe_bl)) pss_nil)
      (pss_cons (ps_if (PW.pt (pw_or (pt_not (pt_val (pcl c__law_alike hr (by decide) rfl (pa_cons (pcl c_read_machine hr (by decide) rfl (pa_cons (pcl c__law_text hr (by decide) rfl (pa_cons (pv 3) pa_nil)) pa_nil)) (pa_cons (pcl c_read_machine hr (by decide) rfl (pa_cons (pcl c__law_text hr (by decide) rfl (pa_cons (pv 4) pa_nil)) pa_nil)) (pa_cons (pv 6) pa_nil)))))) (pw_or1 (pt_not (pt_val (pcl c__law_each_unlike hr (by decide) rfl (pa_cons (pv 2) (pa_cons (pv 3) (pa_cons (pv 5) pa_nil))))))))) (pss_one (ps_ret pe_bl)) pss_nil)
      (pss_cons (ps_set (i := 9) sc_law.nd rfl (Or.inl rfl) (pmk c_Link hr (by decide) rfl (pa_cons (pv 7) (pa_cons (pe_ix (kIx K) (pv 5) pe_int (fun _ _ => rfl)) (pa_cons (pe_ix (kIx K) (pv 5) pe_int (fun _ _ => rfl)) (pa_cons (pe_ix (kIx K) (pv 5) pe_int (fun _ _ => rfl)) (pa_cons (pe_ix (kIx K) (pv 5) pe_int (fun _ _ => rfl)) pa_nil)))))))
      (pss_cons (ps_par (i := 10) (j := 11) rfl sc_law.nd rfl rfl (by decide) rfl rfl (pa_cons (pe_callTy (kList K) rfl T.b_list (by decide +kernel) (pa_cons (pv 5) pa_nil)) (pa_cons (pcl c__law_take hr (by decide) rfl (pa_cons (pv 2) (pa_cons pe_int pa_nil))) pa_nil)) rfl)
      (pss_cons (ps_if (pt_cmpR op_lt (pv 11) pe_int (nomark _)) (pss_one (ps_asg (pe_ix (kIx K) (pe_lst (pa_cons (pcl c__law_take hr (by decide) rfl (pa_cons (pv 2) (pa_cons (pe_callB (kLen K) rfl T.b_len (by decide +kernel) (pa_cons (pe_ix (kIx K) (pv 3) pe_int (fun _ _ => rfl)) pa_nil)) pa_nil))) (pa_cons (pcl c__law_take hr (by decide) rfl (pa_cons (pv 2) (pa_cons pe_int pa_nil))) (pa_cons (pcl c__law_take hr (by decide) rfl (pa_cons (pv 2) (pa_cons pe_int pa_nil))) (pa_cons (pe_op (kAdd K) pe_int (pcl c__law_take hr (by decide) rfl (pa_cons (pv 2) (pa_cons pe_int pa_nil)))) pa_nil))))) (pv 11) (fun _ _ => rfl)) (pg_sub (pv 10) (pv 11) set_list))) pss_nil)
      (pss_cons (ps_if (pt_not (pt_val (pcl c__law_alike hr (by decide) rfl (pa_cons (pv 9) (pa_cons (pmk c_Link hr (by decide) rfl (pa_cons (pmk c_Machine hr (by decide) rfl (pa_cons (pv 3) pa_nil)) (pa_cons (pe_ix (kIx K) (pv 10) pe_int (fun _ _ => rfl)) (pa_cons (pe_ix (kIx K) (pv 10) pe_int (fun _ _ => rfl)) (pa_cons (pe_ix (kIx K) (pv 10) pe_int (fun _ _ => rfl)) (pa_cons (pe_ix (kIx K) (pv 10) pe_int (fun _ _ => rfl)) pa_nil)))))) (pa_cons (pe_cmpR (kEq K hr) (pv 10) (pv 5) (nomark _)) pa_nil)))))) (pss_one (ps_ret pe_bl)) pss_nil)
      (pss_cons (ps_if (PW.pt (pw_and (pt_cmpR op_lt (pe_ix (kIx K) (pv 5) pe_int (fun _ _ => rfl)) (pe_callB (kLen K) rfl T.b_len (by decide +kernel) (pa_cons (pe_ix (kIx K) (pv 4) pe_int (fun _ _ => rfl)) pa_nil)) (nomark _)) (pw_and1 (pt_not (pt_val (pcl c__law_alike hr (by decide) rfl (pa_cons (pv 9) (pa_cons (pmk c_Link hr (by decide) rfl (pa_cons (pv 8) (pa_cons (pe_ix (kIx K) (pv 5) pe_int (fun _ _ => rfl)) (pa_cons (pe_ix (kIx K) (pv 5) pe_int (fun _ _ => rfl)) (pa_cons (pe_ix (kIx K) (pv 5) pe_int (fun _ _ => rfl)) (pa_cons (pe_ix (kIx K) (pv 5) pe_int (fun _ _ => rfl)) pa_nil)))))) (pa_cons (pv 6) pa_nil))))))))) (pss_one (ps_ret pe_bl)) pss_nil)
      (pss_cons (ps_for PassesOwn.never rfl (kSeq K (pe_tup (pa_cons pe_non (pa_cons pe_int (pa_cons pe_bl (pa_cons pe_str (pa_cons (pe_callTy (kList K) rfl T.b_list (by decide +kernel) (pa_cons (pv 3) pa_nil)) (pa_cons (pcl c__law_tuples hr (by decide) rfl (pa_cons (pv 3) pa_nil)) (pa_cons (pe_callTy (kTuple K) rfl T.b_tuple (by decide +kernel) (pa_cons (pv 5) pa_nil)) (pa_cons (pcl c__law_text hr (by decide) rfl (pa_cons (pv 3) pa_nil)) pa_nil)))))))))) (pg_name (i := 12) sc_law.nd rfl (Or.inl rfl))
      (pss_one (ps_if (pt_not (pt_val (pcl c__law_same hr (by decide) rfl (pa_cons (pe_lst (pa_cons (pe_cmpR (op_eqO e_Machine (hr.mono (by decide))) (pv 7) (pv 12) (nomark _)) (pa_cons (pe_cmpR (op_eqO e_Link (hr.mono (by decide))) (pv 9) (pv 12) (nomark _)) (pa_cons (pe_cmpR (op_neO e_Machine (hr.mono (by decide))) (pv 7) (pv 12) (nomark _)) (pa_cons (pe_cmpR (op_neO e_Link (hr.mono (by decide))) (pv 9) (pv 12) (nomark _)) pa_nil))))) (pa_cons (pe_lst (pa_cons pe_bl (pa_cons pe_bl (pa_cons pe_bl (pa_cons pe_bl pa_nil))))) pa_nil))))) (pss_one (ps_ret pe_bl)) pss_nil)))
      (pss_one (ps_if (pt_not (pt_val (pcl c__law_same hr (by decide) rfl (pa_cons (pe_lst (pa_cons (pe_cmpR (op_eqO e_Machine (hr.mono (by decide))) (pv 7) (pv 9) (nomark _)) (pa_cons (pe_cmpR (op_eqO e_Link (hr.mono (by decide))) (pv 9) (pv 7) (nomark _)) (pa_cons (pe_cmpR (op_neO e_Machine (hr.mono (by decide))) (pv 7) (pv 9) (nomark _)) pa_nil)))) (pa_cons (pe_lst (pa_cons pe_bl (pa_cons pe_bl (pa_cons pe_bl pa_nil)))) pa_nil))))) (pss_one (ps_ret pe_bl)) pss_nil))))))))))))))))
      (pss_one (ps_ret pe_bl))), ?_⟩
  repeat walk_at "s"
  refine r_for (r_rng1 ?_)
  repeat walk_at "s"
  refine ⟨3, rfl, by decide, by decide, ?_⟩
  refine for_ask walk_range (fun i σ H' => ∃ x1 x2 x3 x4 x5 x6 x7 x8 x9 x10 x11 x12, σ = [some (.ref sa), x1, x2, x3, x4, x5, x6, x7, x8, x9, x10, x11, x12] ∧ SqL K H' sa (ns.map V.int)) ⟨_, _, _, _, _, _, _, _, _, _, _, _, rfl, hs⟩ (fun _ _ _ _ _ => trivial) ?_ ?_
  · rintro i x σ H00 H0 hi ⟨x1, x2, x3, x4, x5, x6, x7, x8, x9, x10, x11, x12, rfl, hs0⟩ ⟨rfl, rfl⟩
    have hi : i < 3 := hi
    repeat walk_at "s"
    refine ⟨sa, ns, _, rfl, hs0, by omega, by omega, fun b H1 s1 hbn hb1 => ?_⟩
    repeat walk_at "s"
    refine ⟨b, 8, rfl, hb1, by decide, by decide, fun n0 H2 s2 n00 n01 => ?_⟩
    have hb2 := s2.bx hb1
    repeat walk_at "s"
    refine ⟨b, 4, rfl, hb2, by decide, by decide, fun m0 H3 s3 m00 m01 => ?_⟩
    have hb3 := s3.bx hb2
    obtain ⟨n, hn⟩ : ∃ n : Nat, 1 + n0 = (n : Int) := ⟨(1 + n0).toNat, by omega⟩
    obtain ⟨m, hm⟩ : ∃ m : Nat, 1 + m0 = (m : Int) := ⟨(1 + m0).toNat, by omega⟩
    repeat walk_at "s"
    rw [hn, hm]
    refine ⟨b, n, m, rfl, hb3, by omega, by omega, by omega, by omega, fun v tabs H4 s4 hv4 G => ?_⟩
    have hb4 := s4.bx hb3
    have s14 := (s2.trans s3).trans s4
    repeat walk_at "s"
    refine ⟨b, v, tabs, n, rfl, hb4, hv4, G, fun v' tabs' n' H5 s5 hv5' G' => ?_⟩
    have hb5 := s5.bx hb4
    have hv5 := hv4.sb s5 hb4
    obtain ⟨va, vrs, rfl, nva, hvs, hvr⟩ := id hv5
    obtain ⟨wa, wrs, rfl, nwa, hws, hwr⟩ := id hv5'
    have g1 := G.ne
    have g4 := G.few
    have g8 := G.n8
    have gn := G.n1
    have g1' := G'.ne
    have g4' := G'.few
    have hvl : vrs.length = tabs.length := paired_len hvr
    have hwl : wrs.length = tabs'.length := paired_len hwr
    obtain ⟨t0, ht0⟩ : ∃ t0, tabs[0]? = some t0 := ⟨_, List.getElem?_eq_getElem (by omega)⟩
    obtain ⟨r0, hr0⟩ : ∃ r0, vrs[0]? = some r0 := ⟨_, List.getElem?_eq_getElem (by omega)⟩
    obtain ⟨t0', e0', b0, rfl, nb0, hb0⟩ := paired_at hvr hr0
    rw [ht0] at e0'
    cases e0'
    have hl0 : t0.length = n := G.len t0 (List.mem_of_getElem? ht0)
    obtain ⟨u0, hu0⟩ : ∃ u0, tabs'[0]? = some u0 := ⟨_, List.getElem?_eq_getElem (by omega)⟩
    obtain ⟨r0', hr0'⟩ : ∃ r0, wrs[0]? = some r0 := ⟨_, List.getElem?_eq_getElem (by omega)⟩
    obtain ⟨u0', e0', c0, rfl, nc0, hc0⟩ := paired_at hwr hr0'
    rw [hu0] at e0'
    cases e0'
    have hl0' : u0.length = n' := G'.len u0 (List.mem_of_getElem? hu0)
    repeat walk_at "s"
    refine r_ixQ hvs (atI_nat hr0) ?_
    repeat walk_at "s"
    refine r_lenQ hb0 ?_
    rw [List.length_map, hl0]
    repeat walk_at "s"
    refine ⟨b, n, rfl, hb5, by omega, by omega, fun f H6 s6 f0 f1 => ?_⟩
    have hb6 := s6.bx hb5
    repeat walk_at "s"
    refine ⟨b, 13, rfl, hb6, by omega, by omega, fun l H7 s7 l0 l1 => ?_⟩
    have hb7 := s7.bx hb6
    repeat walk_at "s"
    refine ⟨b, 9, rfl, hb7, by omega, by omega, fun o H8 s8 o0 o1 => ?_⟩
    have hb8 := s8.bx hb7
    repeat walk_at "s"
    refine ⟨b, 9, rfl, hb8, by omega, by omega, fun q H9 s9 q0 q1 => ?_⟩
    have hb9 := s9.bx hb8
    repeat walk_at "s"
    refine ⟨szl (by simp), fun nl hnl => ?_⟩
    obtain ⟨a, ha⟩ : ∃ a : Nums, a = ⟨f, l, o, 1 + q⟩ := ⟨_, rfl⟩
    have O : NumOk n a := by rw [ha]; constructor <;> simp <;> omega
    have hlist : [V.int f, .int l, .int o, .int (1 + q)] = (numsOf a).map V.int := by rw [ha]; rfl
    rw [hlist]
    have s59 := ((s6.trans s7).trans s8).trans s9
    have sA := same_upd (o := .lst ((numsOf a).map V.int)) hnl
    have nnl : nl ≠ b := hb9.ne hnl
    have hbA := hb9.same sA
    have s5A := s59.trans (Sb.of sA)
    have hvA := hv5.sb s5A hb5
    have hwA := hv5'.sb s5A hb5
    have hnA : upd H9 nl (.lst ((numsOf a).map V.int)) nl = some (.lst ((numsOf a).map V.int)) := upd_same
    have s1A := (s14.trans s5).trans s5A
    revert hbA hvA hwA hnA s1A s5A
    generalize upd H9 nl (.lst ((numsOf a).map V.int)) = HA
    intro hbA s5A hvA hwA hnA s1A
    have i0 : ∀ a : Nums, atI ((numsOf a).map V.int) 0 = some (.int a.f) := fun a => atI_nat (j := 0) rfl
    have i1 : ∀ a : Nums, atI ((numsOf a).map V.int) 1 = some (.int a.l) := fun a => atI_nat (j := 1) rfl
    have i2 : ∀ a : Nums, atI ((numsOf a).map V.int) 2 = some (.int a.o) := fun a => atI_nat (j := 2) rfl
    have i3 : ∀ a : Nums, atI ((numsOf a).map V.int) 3 = some (.int a.q) := fun a => atI_nat (j := 3) rfl
    repeat walk_at "s"
    refine ⟨_, tabs, rfl, hvA.tab, by omega, fun u HB sB hu => ?_⟩
    repeat walk_at "s"
    refine ⟨_, tabs', rfl, hwA.tab.same sB, by omega, fun u' HC sC hu' => ?_⟩
    refine r_eqD (hu.same sC).dp hu'.dp (sh_dTT _) (sh_dTT _) ?_
    rw [eqv_dTT]
    have sAC := sB.trans sC
    repeat walk_at "s"
    refine made_machine (hvA.tab.same sAC) G fun x HD sD hx hxm => ?_
    have sAD := sAC.trans sD
    repeat walk_at "s"
    refine ⟨_, tabs', rfl, hwA.tab.same sAD, by omega, fun u2 HE sE hu2 => ?_⟩
    have sAE := sAD.trans sE
    repeat walk_at "s"
    refine made_machine hu2.tab G' fun tw HF sF htw htwm => ?_
    have sAF := sAE.trans sF
    have hxF := hxm.same (sE.trans sF)
    obtain ⟨dx, fx, ix⟩ := (hxm.same sE).ins
    have nxt : x ≠ tw := ne_ins ix htw
    repeat walk_at "s"
    refine ⟨x, tw, _, rfl, nxt, .inl ⟨tabs, tabs', n, n', hxF, htwm, rfl⟩, fun HG sG => ?_⟩
    have sAG := sAF.trans sG
    repeat walk_at "s"
    refine ⟨_, nl, tabs, n, a, rfl, hvA.tab.same sAG, G, SqL.of (sAG _ _ hnA), O, fun HH sH => ?_⟩
    have sAH := sAG.trans sH
    repeat walk_at "s"
    refine ⟨szl (by simp), fun p1 hp1 => ?_⟩
    have sI := same_upd (o := .lst [.int 0]) hp1
    repeat walk_at "s"
    refine r_slL (SqL.of (sI _ _ (sAH _ _ hnA))) fun p2 hp2 => ?_
    rw [show (some (1 : Int)) = some ((1 : Nat) : Int) from rfl, cutV_from]
    have sJ := same_upd (o := .lst (((numsOf a).map V.int).drop 1)) hp2
    refine r_addL (sJ _ _ upd_same) upd_same (szl (by simp [numsOf])) fun p3 hp3 => ?_
    have sK := same_upd (o := .lst ([V.int 0] ++ ((numsOf a).map V.int).drop 1)) hp3
    have sAK := ((sAH.trans sI).trans sJ).trans sK
    repeat walk_at "s"
    refine ⟨_, p3, tabs', n', { a with f := 0 }, rfl, hwA.tab.same sAK, G', SqL.of upd_same, ?_, fun HL sL => ?_⟩
    · obtain ⟨h1, h2, h3, h4, h5, h6, h7, h8⟩ := O
      have := G'.n1
      exact ⟨Int.le_refl _, by show (0 : Int) < n'; omega, h3, h4, h5, h6, h7, h8⟩
    have sAL := sAK.trans sL
    repeat walk_at "s"
    refine ⟨_, tabs, n, rfl, hvA.tab.same sAL, G, fun HM sM => ?_⟩
    have sAM := sAL.trans sM
    repeat walk_at "s"
    refine ⟨tabs, n, rfl, G, fun ra HN sN hra hram => ?_⟩
    have sAN := sAM.trans sN
    repeat walk_at "s"
    refine ⟨_, tabs', n', rfl, hwA.tab.same sAN, G', fun HO_ sO => ?_⟩
    have sAO := sAN.trans sO
    repeat walk_at "s"
    refine ⟨tabs', n', rfl, G', fun rb HP sP hrb hrbm => ?_⟩
    have sAP := sAO.trans sP
    obtain ⟨_, _, ira⟩ := (hram.same sO).ins
    repeat walk_at "s"
    refine ⟨ra, rb, _, rfl, ne_ins ira hrb, .inl ⟨tabs, tabs', n, n', hram.same (sO.trans sP), hrbm, rfl⟩, fun HQ sQ => ?_⟩
    have sAQ := sAP.trans sQ
    have hbQ := hbA.same sAQ
    have sbAQ : Sb b HA HQ := Sb.of sAQ
    repeat walk_at "s"
    refine ⟨b, nl, _, tabs, n, a, rfl, hbQ, hvA.sb sbAQ hbA, G, nnl, SqL.of (sAQ _ _ hnA), O, fun HR sR => ?_⟩
    have hbR := sR.bx hbQ
    have sbAR := sbAQ.trans sR
    have hnR := sbAR.kp _ _ nnl hnA
    have hxR := (hxF.same ((((sG.trans sH).trans sI).trans sJ).trans ((((sK.trans sL).trans sM).trans sN).trans ((sO.trans sP).trans sQ)))).sb sR hbQ
    have htwR := (htwm.same ((((sG.trans sH).trans sI).trans sJ).trans ((((sK.trans sL).trans sM).trans sN).trans ((sO.trans sP).trans sQ)))).sb sR hbQ
    have hvR := hvA.sb sbAR hbA
    have hwR := hwA.sb sbAR hbA
    have hnR' := SqL.of (K := K) hnR
    repeat walk_at "s"
    refine r_ixL hnR' (i0 a) ?_
    repeat walk_at "s"
    refine r_ixL hnR' (i1 a) ?_
    repeat walk_at "s"
    refine r_ixL hnR' (i2 a) ?_
    repeat walk_at "s"
    refine r_ixL hnR' (i3 a) ?_
    repeat walk_at "s"
    refine made_link hxR O fun y HS sS hy hyS => ?_
    have hbS := hbR.same sS
    have sbAS := sbAR.trans (Sb.of sS)
    have hxS := hxR.same sS
    have htwS := htwR.same sS
    have hnS := sS _ _ hnR
    repeat walk_at "s"
    refine r_list (.inl (SqL.of hnS)) fun ne hne => ?_
    have sT := same_upd (o := .lst ((numsOf a).map V.int)) hne
    have hbT := hbS.same sT
    have neb : ne ≠ b := hbS.ne hne
    repeat walk_at "s"
    refine ⟨b, 5, rfl, hbT, by decide, by decide, fun at_ HU sU a0 a5 => ?_⟩
    have hbU := sU.bx hbT
    have hneU := sU.kp _ _ neb upd_same
    have sbSU := (Sb.of (b := b) sT).trans sU
    have fresh_ne : HS ne = none := hne
    have nen : ne ≠ nl := fun e => by rw [e, hnS] at hne; cases hne
    repeat walk_at "s"
    refine r_dec_rest (fun σ' H' => ∃ a' : Nums, NumOk n a' ∧ σ' = [some (.ref sa), some (.int (0 + (i : Int))), some (.ref b), some (.ref va), some (.ref wa), some (.ref nl), some (.bl (decide (tabs = tabs'))), some (.ref x), some (.ref tw), some (.ref y), some (.ref ne), some (.int at_), x12] ∧ Sb b HS H' ∧ Bx H' b ∧ H' ne = some (.lst ((numsOf a').map V.int))) ?_ (fun h4 rest => ?_) (fun h4 => ⟨a, O, rfl, sbSU, hbU, hneU⟩)
    · rintro σ' HV ⟨a', O', rfl, sbSV, hbV, hneV⟩
      have sb5V := s5A.trans (sbAS.trans sbSV)
      have hvV := hv5.sb sb5V hb5
      have hnV := sbSV.kp _ _ nnl hnS
      have hxV := hxS.sb sbSV hbS
      have htwV := htwS.sb sbSV hbS
      have hyV := hyS.sb sbSV hbS
      have hwsV := Sq.sb sb5V hb5 nwa hws
      have hc0V := Sq.sb sb5V hb5 nc0 hc0
      have hneV' := SqL.of (K := K) hneV
      repeat walk_at "s"
      refine made_machine hvV.tab G fun xm HW sW hxm' hxmW => ?_
      repeat walk_at "s"
      refine r_ixL (SqL.ext hneV' sW) (i0 a') ?_
      repeat walk_at "s"
      refine r_ixL (SqL.ext hneV' sW) (i1 a') ?_
      repeat walk_at "s"
      refine r_ixL (SqL.ext hneV' sW) (i2 a') ?_
      repeat walk_at "s"
      refine r_ixL (SqL.ext hneV' sW) (i3 a') ?_
      repeat walk_at "s"
      refine made_link hxmW O' fun y2 HX sX hy2 hy2X => ?_
      have sVX := sW.trans sX
      repeat walk_at "s"
      refine r_eqD (Dp.lst (SqL.ext hneV' sVX) (dpAll_ints _)) (Dp.lst (SqL.of (sVX _ _ hnV)) (dpAll_ints _)) (sh_dL (numsOf a')) (sh_dL (numsOf a)) ?_
      rw [show PyData.eqv (.list ((numsOf a').map PyData.int)) (.list ((numsOf a).map PyData.int)) = decide (numsOf a' = numsOf a) from eqv_dL _ _]
      obtain ⟨_, _, iy⟩ := (hyV.same sW).ins
      repeat walk_at "s"
      refine ⟨y, y2, _, rfl, ne_ins iy hy2, .inr ⟨x, xm, a, a', tabs, tabs, n, n, hyV.same sVX, hy2X, ?_⟩, fun HY sY => ?_⟩
      · have : numsOf a' = numsOf a ↔ a = a' := by
          refine ⟨fun e => ?_, fun e => by rw [e]⟩
          obtain ⟨f1, l1, o1, q1⟩ := a
          obtain ⟨f2, l2, o2, q2⟩ := a'
          simp [numsOf] at e
          simp [e]
        simp [this]
      have sVY := sVX.trans sY
      have hnY := sVY _ _ hnV
      repeat walk_at "n"
      dsimp only
      refine r_seq_rest (fun σ' H' => σ' = [some (.ref sa), some (.int (0 + (i : Int))), some (.ref b), some (.ref va), some (.ref wa), some (.ref nl), some (.bl (decide (tabs = tabs'))), some (.ref x), some (.ref tw), some (.ref y), some (.ref ne), some (.int at_), x12] ∧ Same HV H') ?_ (fun rest => ?_)
      · rintro σ' HA1 ⟨rfl, sA1⟩
        have sbA1 := sb5V.trans (Sb.of (b := b) sA1)
        have hvs1 := Sq.sb sbA1 hb5 nva hvs
        have hv1 := hv5.sb sbA1 hb5
        have hn1 := sA1 _ _ hnV
        have hx1 := hxV.same sA1
        have hy1 := hyV.same sA1
        repeat walk_at "s"
        refine r_for (r_iseqMT ?_)
        repeat walk_at "s"
        refine r_list hvs1 fun p1 hp1 => ?_
        have sB1 := same_upd (o := .lst vrs) hp1
        repeat walk_at "s"
        refine ⟨_, tabs, rfl, hv1.tab.same sB1, by omega, fun u1 HC1 sC1 hu1 => ?_⟩
        have sC := sB1.trans sC1
        repeat walk_at "s"
        refine r_tupL (SqL.of (sC _ _ hn1)) fun p2 hp2 => ?_
        have sD1 := same_upd (o := .tup ((numsOf a).map V.int)) hp2
        have sD := sC.trans sD1
        repeat walk_at "s"
        refine ⟨_, tabs, n, rfl, hv1.tab.same sD, G, fun HE1 sE1 => ?_⟩
        have sE := sD.trans sE1
        repeat walk_at "s"
        obtain ⟨ua, urs, rfl, qu, _⟩ := hu1
        refine ⟨szl (by simp), fun pt hpt => ?_⟩
        have sF1 := same_upd (o := .tup [V.non, V.int 0, V.bl true, V.str (Str.ofString "states"), V.ref p1, V.ref ua, V.ref p2, V.str (SX.S (machL tabs n))]) hpt
        have sF := sE.trans sF1
        have items : ∀ (j : Nat) (z : V), [V.non, V.int 0, V.bl true, V.str (Str.ofString "states"), V.ref p1, V.ref ua, V.ref p2, V.str (SX.S (machL tabs n))][j]? = some z → ∃ t ∈ kinds, ∀ H', Same HE1 H' → TyX K H' z (.type t) := by
          intro j z hz
          have hj : j < 8 := (List.getElem?_eq_some_iff.mp hz).1
          have : j = 0 ∨ j = 1 ∨ j = 2 ∨ j = 3 ∨ j = 4 ∨ j = 5 ∨ j = 6 ∨ j = 7 := by omega
          rcases this with rfl | rfl | rfl | rfl | rfl | rfl | rfl | rfl
          · cases hz; exact ⟨"NoneType", by simp, fun _ _ => .base .non⟩
          · cases hz; exact ⟨"int", by simp, fun _ _ => .base (.int 0)⟩
          · cases hz; exact ⟨"bool", by simp, fun _ _ => .base (.bl true)⟩
          · cases hz; exact ⟨"str", by simp, fun _ _ => .base (.str _)⟩
          · cases hz; exact ⟨"list", by simp, fun H' s => ty_L (SqL.of (s _ _ (sE1 _ _ (sD1 _ _ (sC1 _ _ upd_same)))))⟩
          · cases hz; exact ⟨"tuple", by simp, fun H' s => ty_T (SqT.ext qu ((sD1.trans sE1).trans s))⟩
          · cases hz; exact ⟨"tuple", by simp, fun H' s => ty_T (SqT.of (s _ _ (sE1 _ _ upd_same)))⟩
          · cases hz; exact ⟨"str", by simp, fun _ _ => .base (.str _)⟩
        refine r_ittX (SqT.of upd_same) fun wk => ?_
        refine for_ask wk (fun i2 σ H' => ∃ x13, σ = [some (.ref sa), some (.int (0 + (i : Int))), some (.ref b), some (.ref va), some (.ref wa), some (.ref nl), some (.bl (decide (tabs = tabs'))), some (.ref x), some (.ref tw), some (.ref y), some (.ref ne), some (.int at_), x13] ∧ Same (upd HE1 pt (.tup [V.non, V.int 0, V.bl true, V.str (Str.ofString "states"), V.ref p1, V.ref ua, V.ref p2, V.str (SX.S (machL tabs n))])) H') ⟨_, rfl, Same.refl _⟩ (fun i2 σ H' _ ⟨_, _, s⟩ => SqT.ext (SqT.of upd_same) s) ?_ ?_
        · rintro j z σ HF HG hi ⟨x13, rfl, sG⟩ ⟨rfl, hz⟩
          obtain ⟨t, mt, ht⟩ := items j z hz
          have sEG := sF1.trans sG
          have hxG := hx1.same (sE.trans sEG)
          have hyG := hy1.same (sE.trans sEG)
          repeat walk_at "s"
          refine eqMo hxG (ht _ sEG) (T.b_Machine.nf t mt) (T.b_Machine.ko t mt) ?_
          repeat walk_at "s"
          refine eqLo hyG (ht _ sEG) (T.b_Link.nf t mt) (T.b_Link.ko t mt) ?_
          repeat walk_at "s"
          refine neMo hxG (ht _ sEG) (T.b_Machine.nf t mt) (T.b_Machine.ko t mt) ?_
          repeat walk_at "s"
          refine neLo hyG (ht _ sEG) (T.b_Link.nf t mt) (T.b_Link.ko t mt) ?_
          repeat walk_at "s"
          refine ⟨szl (by simp), fun q1 hq1 => ?_⟩
          have sH := same_upd (o := .lst [V.bl false, .bl false, .bl true, .bl true]) hq1
          repeat walk_at "s"
          refine ⟨szl (by simp), fun q2 hq2 => ?_⟩
          have sI := same_upd (o := .lst [V.bl false, .bl false, .bl true, .bl true]) hq2
          repeat walk_at "s"
          refine ⟨.ref q1, .ref q2, rfl, sd_bools (bs := [false, false, true, true]) (SqL.of (sI _ _ upd_same)) (SqL.of upd_same), fun HJ sJ => ?_⟩
          repeat walk_at "s"
          exact ⟨_, rfl, ((sG.trans sH).trans sI).trans sJ⟩
        · rintro σ HF ⟨x13, rfl, sG⟩
          have sEG := sE.trans (sF1.trans sG)
          have hxG := hx1.same sEG
          have hyG := hy1.same sEG
          obtain ⟨_, _, ixG⟩ := hxG.ins
          obtain ⟨_, _, iyG⟩ := hyG.ins
          repeat walk_at "s"
          refine eqMo hxG (ty_ins iyG T.i_Link) T.x_LM.nf T.x_LM.ko ?_
          repeat walk_at "s"
          refine eqLo hyG (ty_ins ixG T.i_Machine) T.x_ML.nf T.x_ML.ko ?_
          repeat walk_at "s"
          refine neMo hxG (ty_ins iyG T.i_Link) T.x_LM.nf T.x_LM.ko ?_
          repeat walk_at "s"
          refine ⟨szl (by simp), fun q1 hq1 => ?_⟩
          have sH := same_upd (o := .lst [V.bl false, .bl false, .bl true]) hq1
          repeat walk_at "s"
          refine ⟨szl (by simp), fun q2 hq2 => ?_⟩
          have sI := same_upd (o := .lst [V.bl false, .bl false, .bl true]) hq2
          repeat walk_at "s"
          refine ⟨.ref q1, .ref q2, rfl, sd_bools (bs := [false, false, true]) (SqL.of (sI _ _ upd_same)) (SqL.of upd_same), fun HJ sJ => ?_⟩
          repeat walk_at "s"
          refine ⟨_, _, _, _, _, _, _, _, _, _, _, _, rfl, SqL.new hbn s1 ((s1A.trans (sbAS.trans sbSV)).trans (Sb.of (((sA1.trans sEG).trans (sH.trans sI)).trans sJ))) hs0⟩
      · repeat walk_at "s"
        refine r_ixL (SqL.of hnY) (i0 a) ?_
        repeat walk_at "s"
        refine r_ixQ (hwsV.same sVY) (atI_nat hr0') ?_
        repeat walk_at "s"
        refine r_lenQ (hc0V.same sVY) ?_
        rw [List.length_map, hl0']
        repeat walk_at "s"
        refine r_dec (fun hf => ?_) (fun hf => ?_)
        · repeat walk_at "s"
          refine r_ixL (SqL.of hnY) (i0 a) ?_
          repeat walk_at "s"
          refine r_ixL (SqL.of hnY) (i1 a) ?_
          repeat walk_at "s"
          refine r_ixL (SqL.of hnY) (i2 a) ?_
          repeat walk_at "s"
          refine r_ixL (SqL.of hnY) (i3 a) ?_
          repeat walk_at "s"
          have O2 : NumOk n' a := ⟨O.f0, hf, O.l0, O.l1, O.o0, O.o1, O.q0, O.q1⟩
          refine made_link (htwV.same sVY) O2 fun y3 HZ sZ hy3 hy3Z => ?_
          obtain ⟨_, _, iy⟩ := (hyV.same sVY).ins
          repeat walk_at "s"
          refine ⟨y, y3, _, rfl, ne_ins iy hy3, .inr ⟨x, tw, a, a, tabs, tabs', n, n', hyV.same (sVY.trans sZ), hy3Z, by simp⟩, fun HA1 sA1 => ?_⟩
          repeat walk_at "s"
          exact rest _ _ ⟨rfl, (sVY.trans sZ).trans sA1⟩
        · repeat walk_at "s"
          exact rest _ _ ⟨rfl, sVY⟩
    · have sb5U := s5A.trans (sbAS.trans sbSU)
      obtain ⟨j, rfl⟩ : ∃ j : Nat, at_ = (j : Int) := ⟨at_.toNat, by omega⟩
      have hj : j < 4 := by omega
      repeat walk_at "s"
      refine r_ixQ (Sq.sb sb5U hb5 nva hvs) (atI_nat hr0) ?_
      repeat walk_at "s"
      refine r_lenQ (Sq.sb sb5U hb5 nb0 hb0) ?_
      rw [List.length_map, hl0]
      repeat walk_at "s"
      refine ⟨b, n, rfl, hbU, by omega, by omega, fun f2 HV sV f20 f21 => ?_⟩
      have hbV := sV.bx hbU
      repeat walk_at "s"
      refine ⟨b, 13, rfl, hbV, by omega, by omega, fun l2 HW sW l20 l21 => ?_⟩
      have hbW := sW.bx hbV
      repeat walk_at "s"
      refine ⟨b, 9, rfl, hbW, by omega, by omega, fun o2 HX sX o20 o21 => ?_⟩
      have hbX := sX.bx hbW
      repeat walk_at "s"
      refine ⟨b, 9, rfl, hbX, by omega, by omega, fun q2 HY sY q20 q21 => ?_⟩
      have hbY := sY.bx hbX
      repeat walk_at "s"
      refine ⟨szl (by simp), fun pl hpl => ?_⟩
      have sZ := same_upd (o := .lst [V.int f2, .int l2, .int o2, .int (1 + q2)]) hpl
      have sUZ := ((sV.trans sW).trans (sX.trans sY)).trans (Sb.of sZ)
      have hneZ := sUZ.kp _ _ neb hneU
      have Od : NumOk n ⟨f2, l2, o2, 1 + q2⟩ := by constructor <;> simp <;> omega
      have hx := nums_at (a := ⟨f2, l2, o2, 1 + q2⟩) hj
      have hxb := at_bnd Od hj
      revert hxb
      have hx2 : atI [V.int f2, V.int l2, V.int o2, V.int (1 + q2)] (j : Int) = some (V.int ((⟨f2, l2, o2, 1 + q2⟩ : Nums).at_ j)) := by
        have e : [V.int f2, V.int l2, V.int o2, V.int (1 + q2)] = (numsOf ⟨f2, l2, o2, 1 + q2⟩).map V.int := rfl
        rw [e]
        exact atI_nat (by rw [List.getElem?_map, hx]; rfl)
      revert hx2
      generalize (⟨f2, l2, o2, 1 + q2⟩ : Nums).at_ j = z
      intro hx2 hxb
      repeat walk_at "s"
      refine r_ixL (SqL.of upd_same) hx2 ?_
      repeat walk_at "s"
      refine r_setL hneZ (j := j) (ixN_nat (by simp [numsOf]; omega)) ?_
      rw [← List.map_set, nums_put hj]
      exact rest _ _ ⟨a.put z j, put_ok O hj hxb.1 hxb.2, rfl, (sbSU.trans sUZ).upd hbS fresh_ne, ⟨(sUZ.bx hbU).choose, (sUZ.bx hbU).choose_spec.choose, by rw [upd_ne neb.symm]; exact (sUZ.bx hbU).choose_spec.choose_spec⟩, upd_same⟩
  · rintro σ H3 ⟨x1, x2, x3, x4, x5, x6, x7, x8, x9, x10, x11, x12, rfl, hs3⟩
    repeat walk_at "s"
    exact k _
end
end P45

namespace P45
open PySem PySem.Spec PyProof.Rows L2 Pg
def d_is_integer : He.DefD := ⟨("is_integer", none), "is_integer", "is_integer", defArgs s_is_integer, defBody s_is_integer, defScope s_is_integer, [], []⟩
def d_is_number : He.DefD := ⟨("is_number", none), "is_number", "is_number", defArgs s_is_number, defBody s_is_number, defScope s_is_number, [], []⟩
def d_is_below : He.DefD := ⟨("is_below", none), "is_below", "is_below", defArgs s_is_below, defBody s_is_below, defScope s_is_below, [], []⟩
def d_is_within : He.DefD := ⟨("is_within", none), "is_within", "is_within", defArgs s_is_within, defBody s_is_within, defScope s_is_within, [], []⟩
def d_is_sequence : He.DefD := ⟨("is_sequence", none), "is_sequence", "is_sequence", defArgs s_is_sequence, defBody s_is_sequence, defScope s_is_sequence, [], []⟩
def d_is_text : He.DefD := ⟨("is_text", none), "is_text", "is_text", defArgs s_is_text, defBody s_is_text, defScope s_is_text, [], []⟩
def d_is_table : He.DefD := ⟨("is_table", none), "is_table", "is_table", defArgs s_is_table, defBody s_is_table, defScope s_is_table, [], []⟩
def d_check_tables : He.DefD := ⟨("check_tables", none), "check_tables", "check_tables", defArgs s_check_tables, defBody s_check_tables, defScope s_check_tables, [], []⟩
def d_Machine___init__ : He.DefD := ⟨("Machine", some "__init__"), "__init__", "Machine.__init__", defArgs s_Machine___init__, defBody s_Machine___init__, defScope s_Machine___init__, [], []⟩
def d_Machine___eq__ : He.DefD := ⟨("Machine", some "__eq__"), "__eq__", "Machine.__eq__", defArgs s_Machine___eq__, defBody s_Machine___eq__, defScope s_Machine___eq__, [], []⟩
def d_need_state : He.DefD := ⟨("need_state", none), "need_state", "need_state", defArgs s_need_state, defBody s_need_state, defScope s_need_state, [], []⟩
def d_Link___init__ : He.DefD := ⟨("Link", some "__init__"), "__init__", "Link.__init__", defArgs s_Link___init__, defBody s_Link___init__, defScope s_Link___init__, [.int 1], []⟩
def d_Link___eq__ : He.DefD := ⟨("Link", some "__eq__"), "__eq__", "Link.__eq__", defArgs s_Link___eq__, defBody s_Link___eq__, defScope s_Link___eq__, [], []⟩
def d_numbers_text : He.DefD := ⟨("numbers_text", none), "numbers_text", "numbers_text", defArgs s_numbers_text, defBody s_numbers_text, defScope s_numbers_text, [], []⟩
def d_read_number : He.DefD := ⟨("read_number", none), "read_number", "read_number", defArgs s_read_number, defBody s_read_number, defScope s_read_number, [], []⟩
def d_read_numbers : He.DefD := ⟨("read_numbers", none), "read_numbers", "read_numbers", defArgs s_read_numbers, defBody s_read_numbers, defScope s_read_numbers, [], []⟩
def d_machine_text : He.DefD := ⟨("machine_text", none), "machine_text", "machine_text", defArgs s_machine_text, defBody s_machine_text, defScope s_machine_text, [], []⟩
def d_read_lines : He.DefD := ⟨("read_lines", none), "read_lines", "read_lines", defArgs s_read_lines, defBody s_read_lines, defScope s_read_lines, [], []⟩
def d_read_machine : He.DefD := ⟨("read_machine", none), "read_machine", "read_machine", defArgs s_read_machine, defBody s_read_machine, defScope s_read_machine, [], []⟩
def d_link_text : He.DefD := ⟨("link_text", none), "link_text", "link_text", defArgs s_link_text, defBody s_link_text, defScope s_link_text, [], []⟩
def d_read_link : He.DefD := ⟨("read_link", none), "read_link", "read_link", defArgs s_read_link, defBody s_read_link, defScope s_read_link, [], []⟩
def d__law_box : He.DefD := ⟨("_law_box", none), "_law_box", "_law_box", defArgs s__law_box, defBody s__law_box, defScope s__law_box, [], []⟩
def d__law_take : He.DefD := ⟨("_law_take", none), "_law_take", "_law_take", defArgs s__law_take, defBody s__law_take, defScope s__law_take, [], []⟩
def d__law_pick : He.DefD := ⟨("_law_pick", none), "_law_pick", "_law_pick", defArgs s__law_pick, defBody s__law_pick, defScope s__law_pick, [], []⟩
def d__law_same : He.DefD := ⟨("_law_same", none), "_law_same", "_law_same", defArgs s__law_same, defBody s__law_same, defScope s__law_same, [], []⟩
def d__law_tables : He.DefD := ⟨("_law_tables", none), "_law_tables", "_law_tables", defArgs s__law_tables, defBody s__law_tables, defScope s__law_tables, [], []⟩
def d__law_turned : He.DefD := ⟨("_law_turned", none), "_law_turned", "_law_turned", defArgs s__law_turned, defBody s__law_turned, defScope s__law_turned, [], []⟩
def d__law_row : He.DefD := ⟨("_law_row", none), "_law_row", "_law_row", defArgs s__law_row, defBody s__law_row, defScope s__law_row, [], []⟩
def d__law_text : He.DefD := ⟨("_law_text", none), "_law_text", "_law_text", defArgs s__law_text, defBody s__law_text, defScope s__law_text, [], []⟩
def d__law_alike : He.DefD := ⟨("_law_alike", none), "_law_alike", "_law_alike", defArgs s__law_alike, defBody s__law_alike, defScope s__law_alike, [], []⟩
def d__law_each_unlike : He.DefD := ⟨("_law_each_unlike", none), "_law_each_unlike", "_law_each_unlike", defArgs s__law_each_unlike, defBody s__law_each_unlike, defScope s__law_each_unlike, [], []⟩
def d__law_tuples : He.DefD := ⟨("_law_tuples", none), "_law_tuples", "_law_tuples", defArgs s__law_tuples, defBody s__law_tuples, defScope s__law_tuples, [], []⟩
def d__law_read_right : He.DefD := ⟨("_law_read_right", none), "_law_read_right", "_law_read_right", defArgs s__law_read_right, defBody s__law_read_right, defScope s__law_read_right, [], []⟩
def d_law : He.DefD := ⟨("law", none), "law", "law", defArgs s_law, defBody s_law, defScope s_law, [], []⟩
def fn0 : List He.DefD := [d_is_integer, d_is_number, d_is_below, d_is_within, d_is_sequence, d_is_text, d_is_table, d_check_tables, d_Machine___init__, d_Machine___eq__, d_need_state, d_Link___init__, d_Link___eq__, d_numbers_text, d_read_number, d_read_numbers, d_machine_text, d_read_lines, d_read_machine, d_link_text, d_read_link, d__law_box, d__law_take, d__law_pick, d__law_same, d__law_tables, d__law_turned, d__law_row, d__law_text, d__law_alike]
def fn1 : List He.DefD := [d__law_each_unlike, d__law_tuples, d__law_read_right, d_law]
def fn : List He.DefD := fn0 ++ fn1
def fa0 : List He.Fa := [.glo "is_integer", .glo "is_number", .glo "is_below", .glo "is_within", .glo "is_sequence", .glo "is_text", .glo "is_table", .glo "check_tables", .glo "need_state", .glo "numbers_text", .glo "read_number", .glo "read_numbers", .glo "machine_text", .glo "read_lines", .glo "read_machine", .glo "link_text", .glo "read_link", .glo "_law_box", .glo "_law_take", .glo "_law_pick", .glo "_law_same", .glo "_law_tables", .glo "_law_turned", .glo "_law_row", .glo "_law_text", .glo "_law_alike", .glo "_law_each_unlike", .glo "_law_tuples", .glo "_law_read_right", .glo "law"]
def fa1 : List He.Fa := [.glo "PageError", .glo "BadMachine", .glo "BadText", .glo "Refused", .glo "NoState", .glo "Machine", .glo "Link", .free "len", .free "range", .free "str", .free "abs", .free "int", .free "list", .free "tuple", .free "enumerate", .free "min", .free "all", .free "zip", .free "isinstance", .free "bool", .int "MOST_DEEDS" 4, .int "MOST_STATES" 8, .int "MOST_LENGTH" 12, .int "MOST_LOSS" 8, .int "MOST_MODULUS" 9, .str "STATES" "states ", .str "LINK" "link ", .str "NONE" "-", .cls "Machine", .mkr "Machine"]
def fa2 : List He.Fa := [.noat "Machine" "tables", .noat "Machine" "deeds", .noat "Machine" "states", .meth "Machine" "__eq__", .cls "Link", .mkr "Link", .noat "Link" "machine", .noat "Link" "first", .noat "Link" "length", .noat "Link" "loss", .noat "Link" "modulus", .meth "Link" "__eq__"]
def fa : List He.Fa := fa0 ++ fa1 ++ fa2
def loose0 : List PySem.Str := [("__name__" : PySem.Str), ("PageError" : PySem.Str), ("BadMachine" : PySem.Str), ("BadText" : PySem.Str), ("Refused" : PySem.Str), ("NoState" : PySem.Str), ("MOST_DEEDS" : PySem.Str), ("MOST_STATES" : PySem.Str), ("MOST_LENGTH" : PySem.Str), ("MOST_LOSS" : PySem.Str), ("MOST_MODULUS" : PySem.Str), ("is_integer" : PySem.Str), ("is_number" : PySem.Str), ("is_below" : PySem.Str), ("is_within" : PySem.Str), ("is_sequence" : PySem.Str), ("is_text" : PySem.Str), ("is_table" : PySem.Str), ("check_tables" : PySem.Str), ("Machine" : PySem.Str), ("need_state" : PySem.Str), ("Link" : PySem.Str), ("STATES" : PySem.Str), ("LINK" : PySem.Str), ("NONE" : PySem.Str), ("numbers_text" : PySem.Str), ("read_number" : PySem.Str), ("read_numbers" : PySem.Str), ("machine_text" : PySem.Str), ("read_lines" : PySem.Str)]
def loose1 : List PySem.Str := [("read_machine" : PySem.Str), ("link_text" : PySem.Str), ("read_link" : PySem.Str), ("_law_box" : PySem.Str), ("_law_take" : PySem.Str), ("_law_pick" : PySem.Str), ("_law_same" : PySem.Str), ("_law_tables" : PySem.Str), ("_law_turned" : PySem.Str), ("_law_row" : PySem.Str), ("_law_text" : PySem.Str), ("_law_alike" : PySem.Str), ("_law_each_unlike" : PySem.Str), ("_law_tuples" : PySem.Str), ("_law_read_right" : PySem.Str)]
def loose : List PySem.Str := loose0 ++ loose1
def ex : PySem.W.Frag → Bool := fun K => InsB K (He.ga K "Machine") && (InsB K (He.ga K "Link") && (NeB K (He.ga K "Machine") && (NeB K (He.ga K "Link") && (KoB K (He.ga K "Machine") && (KoB K (He.ga K "Link") && (KxB K (He.ga K "Machine") (He.ga K "Link") && (KxB K (He.ga K "Link") (He.ga K "Machine"))))))))
abbrev R : PySem.W.OpenRow := PySem.W.OpenLaw.row PySem.Challenge.rw_pagesagain_k45_machines_and_links_side_b
abbrev hk : PySem.W.Hook := He.hookX 5 fa fn [] [] ex
def ob (s : PySem.W.SharedT) : He.AlX := He.obsX 5 fa fn [] [] ex (HandSHeadRun.getT s)
theorem ob_eq (s : PySem.W.SharedT) : ob s = hk.obs s.abs := He.obsX_eq (HandSHeadRun.getT_eq s)
theorem run (w : World) : HandSHeadRun.RunEq R (PySem.W.view R.prog [50]) hk ob 3200 loose w := by
  intro os
  kernel_rfl
theorem txt {w : World} {K : PySem.W.Frag} {h : Heap} {mg : Str → Option Value} (X : K.In h) (G : h.Ns mainGlobals mg) (c : He.SaysX fa fn [] [] ex w h K) : Tx K mg := by
  have D := c.t.d
  obtain ⟨x0, x1, x2, x3, x4, x5, x6, x7⟩ : InsB K (He.ga K "Machine") = true ∧ InsB K (He.ga K "Link") = true ∧ NeB K (He.ga K "Machine") = true ∧ NeB K (He.ga K "Link") = true ∧ KoB K (He.ga K "Machine") = true ∧ KoB K (He.ga K "Link") = true ∧ KxB K (He.ga K "Machine") (He.ga K "Link") = true ∧ KxB K (He.ga K "Link") (He.ga K "Machine") = true := by
    have z := c.more
    simpa only [ex, Bool.and_eq_true] using z
  exact {
    b_len := He.free_ok X G (D.fact 37 (f := .free "len") rfl),
    b_range := He.free_ok X G (D.fact 38 (f := .free "range") rfl),
    b_str := He.free_ok X G (D.fact 39 (f := .free "str") rfl),
    b_abs := He.free_ok X G (D.fact 40 (f := .free "abs") rfl),
    b_int := He.free_ok X G (D.fact 41 (f := .free "int") rfl),
    b_list := He.free_ok X G (D.fact 42 (f := .free "list") rfl),
    b_tuple := He.free_ok X G (D.fact 43 (f := .free "tuple") rfl),
    b_enumerate := He.free_ok X G (D.fact 44 (f := .free "enumerate") rfl),
    b_min := He.free_ok X G (D.fact 45 (f := .free "min") rfl),
    b_all := He.free_ok X G (D.fact 46 (f := .free "all") rfl),
    b_zip := He.free_ok X G (D.fact 47 (f := .free "zip") rfl),
    b_isinstance := He.free_ok X G (D.fact 48 (f := .free "isinstance") rfl),
    b_bool := He.free_ok X G (D.fact 49 (f := .free "bool") rfl),
    k_MOST_DEEDS := let ⟨t, e⟩ := He.int_ok X G (D.fact 50 (f := .int "MOST_DEEDS" 4) rfl); ⟨_, e, t, rfl⟩,
    k_MOST_STATES := let ⟨t, e⟩ := He.int_ok X G (D.fact 51 (f := .int "MOST_STATES" 8) rfl); ⟨_, e, t, rfl⟩,
    k_MOST_LENGTH := let ⟨t, e⟩ := He.int_ok X G (D.fact 52 (f := .int "MOST_LENGTH" 12) rfl); ⟨_, e, t, rfl⟩,
    k_MOST_LOSS := let ⟨t, e⟩ := He.int_ok X G (D.fact 53 (f := .int "MOST_LOSS" 8) rfl); ⟨_, e, t, rfl⟩,
    k_MOST_MODULUS := let ⟨t, e⟩ := He.int_ok X G (D.fact 54 (f := .int "MOST_MODULUS" 9) rfl); ⟨_, e, t, rfl⟩,
    k_STATES := let ⟨t, e⟩ := He.str_ok X G (D.fact 55 (f := .str "STATES" "states ") rfl); ⟨_, e, t, rfl⟩,
    k_LINK := let ⟨t, e⟩ := He.str_ok X G (D.fact 56 (f := .str "LINK" "link ") rfl); ⟨_, e, t, rfl⟩,
    k_NONE := let ⟨t, e⟩ := He.str_ok X G (D.fact 57 (f := .str "NONE" "-") rfl); ⟨_, e, t, rfl⟩,
    g_Machine := He.glo_ok X G (D.fact 35 (f := .glo "Machine") rfl),
    i_Machine := InsB.ok x0 (He.cls_ok (D.fact 58 (f := .cls "Machine") rfl)),
    n_Machine_tables := He.noat_ok (D.fact 60 (f := .noat "Machine" "tables") rfl),
    n_Machine_deeds := He.noat_ok (D.fact 61 (f := .noat "Machine" "deeds") rfl),
    n_Machine_states := He.noat_ok (D.fact 62 (f := .noat "Machine" "states") rfl),
    g_Link := He.glo_ok X G (D.fact 36 (f := .glo "Link") rfl),
    i_Link := InsB.ok x1 (He.cls_ok (D.fact 64 (f := .cls "Link") rfl)),
    n_Link_machine := He.noat_ok (D.fact 66 (f := .noat "Link" "machine") rfl),
    n_Link_first := He.noat_ok (D.fact 67 (f := .noat "Link" "first") rfl),
    n_Link_length := He.noat_ok (D.fact 68 (f := .noat "Link" "length") rfl),
    n_Link_loss := He.noat_ok (D.fact 69 (f := .noat "Link" "loss") rfl),
    n_Link_modulus := He.noat_ok (D.fact 70 (f := .noat "Link" "modulus") rfl),
    b_Machine := KoB.ok x4,
    b_Link := KoB.ok x5,
    x_ML := KxB.ok x6,
    x_LM := KxB.ok x7 }
theorem facts {P : Program} {w : World} {K : PySem.W.Frag} {h : Heap} {mg : Str → Option Value} {f : Addr} (X : K.In h) (G : h.Ns mainGlobals mg) (hfa : mg ("law" : Str) = some (.ref f)) (c : He.SaysX fa fn [] [] ex w h K) :
    ∃ fd : FuncData, (∀ (s : Shared) (v : Value), BindsTo s fd ⟨[v], []⟩ [("script", v)]) ∧ ∀ base : Heap, FnOk P w K mg base L2.CX0 11 f fd ["script"] (sp_law K) := by
  have D := c.t.d
  have T := txt X G c
  obtain ⟨x0, x1, x2, x3, x4, x5, x6, x7⟩ : InsB K (He.ga K "Machine") = true ∧ InsB K (He.ga K "Link") = true ∧ NeB K (He.ga K "Machine") = true ∧ NeB K (He.ga K "Link") = true ∧ KoB K (He.ga K "Machine") = true ∧ KoB K (He.ga K "Link") = true ∧ KxB K (He.ga K "Machine") (He.ga K "Link") = true ∧ KxB K (He.ga K "Link") (He.ga K "Machine") = true := by
    have z := c.more
    simpa only [ex, Bool.and_eq_true] using z
  obtain ⟨fd_is_integer, F_is_integer⟩ := D.def_ 0 (d := d_is_integer) rfl
  have A_is_integer : At K mg "is_integer" s_is_integer [] [] _ _ := ⟨F_is_integer, He.glo_ok X G (D.fact 0 (f := .glo "is_integer") rfl)⟩
  obtain ⟨fd_is_number, F_is_number⟩ := D.def_ 1 (d := d_is_number) rfl
  have A_is_number : At K mg "is_number" s_is_number [] [] _ _ := ⟨F_is_number, He.glo_ok X G (D.fact 1 (f := .glo "is_number") rfl)⟩
  obtain ⟨fd_is_below, F_is_below⟩ := D.def_ 2 (d := d_is_below) rfl
  have A_is_below : At K mg "is_below" s_is_below [] [] _ _ := ⟨F_is_below, He.glo_ok X G (D.fact 2 (f := .glo "is_below") rfl)⟩
  obtain ⟨fd_is_within, F_is_within⟩ := D.def_ 3 (d := d_is_within) rfl
  have A_is_within : At K mg "is_within" s_is_within [] [] _ _ := ⟨F_is_within, He.glo_ok X G (D.fact 3 (f := .glo "is_within") rfl)⟩
  obtain ⟨fd_is_sequence, F_is_sequence⟩ := D.def_ 4 (d := d_is_sequence) rfl
  have A_is_sequence : At K mg "is_sequence" s_is_sequence [] [] _ _ := ⟨F_is_sequence, He.glo_ok X G (D.fact 4 (f := .glo "is_sequence") rfl)⟩
  obtain ⟨fd_is_text, F_is_text⟩ := D.def_ 5 (d := d_is_text) rfl
  have A_is_text : At K mg "is_text" s_is_text [] [] _ _ := ⟨F_is_text, He.glo_ok X G (D.fact 5 (f := .glo "is_text") rfl)⟩
  obtain ⟨fd_is_table, F_is_table⟩ := D.def_ 6 (d := d_is_table) rfl
  have A_is_table : At K mg "is_table" s_is_table [] [] _ _ := ⟨F_is_table, He.glo_ok X G (D.fact 6 (f := .glo "is_table") rfl)⟩
  obtain ⟨fd_check_tables, F_check_tables⟩ := D.def_ 7 (d := d_check_tables) rfl
  have A_check_tables : At K mg "check_tables" s_check_tables [] [] _ _ := ⟨F_check_tables, He.glo_ok X G (D.fact 7 (f := .glo "check_tables") rfl)⟩
  obtain ⟨fd_Machine___init__, F_Machine___init__⟩ := D.def_ 8 (d := d_Machine___init__) rfl
  obtain ⟨fd_Machine___eq__, F_Machine___eq__⟩ := D.def_ 9 (d := d_Machine___eq__) rfl
  obtain ⟨fd_need_state, F_need_state⟩ := D.def_ 10 (d := d_need_state) rfl
  have A_need_state : At K mg "need_state" s_need_state [] [] _ _ := ⟨F_need_state, He.glo_ok X G (D.fact 8 (f := .glo "need_state") rfl)⟩
  obtain ⟨fd_Link___init__, F_Link___init__⟩ := D.def_ 11 (d := d_Link___init__) rfl
  obtain ⟨fd_Link___eq__, F_Link___eq__⟩ := D.def_ 12 (d := d_Link___eq__) rfl
  obtain ⟨fd_numbers_text, F_numbers_text⟩ := D.def_ 13 (d := d_numbers_text) rfl
  have A_numbers_text : At K mg "numbers_text" s_numbers_text [] [] _ _ := ⟨F_numbers_text, He.glo_ok X G (D.fact 9 (f := .glo "numbers_text") rfl)⟩
  obtain ⟨fd_read_number, F_read_number⟩ := D.def_ 14 (d := d_read_number) rfl
  have A_read_number : At K mg "read_number" s_read_number [] [] _ _ := ⟨F_read_number, He.glo_ok X G (D.fact 10 (f := .glo "read_number") rfl)⟩
  obtain ⟨fd_read_numbers, F_read_numbers⟩ := D.def_ 15 (d := d_read_numbers) rfl
  have A_read_numbers : At K mg "read_numbers" s_read_numbers [] [] _ _ := ⟨F_read_numbers, He.glo_ok X G (D.fact 11 (f := .glo "read_numbers") rfl)⟩
  obtain ⟨fd_machine_text, F_machine_text⟩ := D.def_ 16 (d := d_machine_text) rfl
  have A_machine_text : At K mg "machine_text" s_machine_text [] [] _ _ := ⟨F_machine_text, He.glo_ok X G (D.fact 12 (f := .glo "machine_text") rfl)⟩
  obtain ⟨fd_read_lines, F_read_lines⟩ := D.def_ 17 (d := d_read_lines) rfl
  have A_read_lines : At K mg "read_lines" s_read_lines [] [] _ _ := ⟨F_read_lines, He.glo_ok X G (D.fact 13 (f := .glo "read_lines") rfl)⟩
  obtain ⟨fd_read_machine, F_read_machine⟩ := D.def_ 18 (d := d_read_machine) rfl
  have A_read_machine : At K mg "read_machine" s_read_machine [] [] _ _ := ⟨F_read_machine, He.glo_ok X G (D.fact 14 (f := .glo "read_machine") rfl)⟩
  obtain ⟨fd_link_text, F_link_text⟩ := D.def_ 19 (d := d_link_text) rfl
  have A_link_text : At K mg "link_text" s_link_text [] [] _ _ := ⟨F_link_text, He.glo_ok X G (D.fact 15 (f := .glo "link_text") rfl)⟩
  obtain ⟨fd_read_link, F_read_link⟩ := D.def_ 20 (d := d_read_link) rfl
  have A_read_link : At K mg "read_link" s_read_link [] [] _ _ := ⟨F_read_link, He.glo_ok X G (D.fact 16 (f := .glo "read_link") rfl)⟩
  obtain ⟨fd__law_box, F__law_box⟩ := D.def_ 21 (d := d__law_box) rfl
  have A__law_box : At K mg "_law_box" s__law_box [] [] _ _ := ⟨F__law_box, He.glo_ok X G (D.fact 17 (f := .glo "_law_box") rfl)⟩
  obtain ⟨fd__law_take, F__law_take⟩ := D.def_ 22 (d := d__law_take) rfl
  have A__law_take : At K mg "_law_take" s__law_take [] [] _ _ := ⟨F__law_take, He.glo_ok X G (D.fact 18 (f := .glo "_law_take") rfl)⟩
  obtain ⟨fd__law_pick, F__law_pick⟩ := D.def_ 23 (d := d__law_pick) rfl
  have A__law_pick : At K mg "_law_pick" s__law_pick [] [] _ _ := ⟨F__law_pick, He.glo_ok X G (D.fact 19 (f := .glo "_law_pick") rfl)⟩
  obtain ⟨fd__law_same, F__law_same⟩ := D.def_ 24 (d := d__law_same) rfl
  have A__law_same : At K mg "_law_same" s__law_same [] [] _ _ := ⟨F__law_same, He.glo_ok X G (D.fact 20 (f := .glo "_law_same") rfl)⟩
  obtain ⟨fd__law_tables, F__law_tables⟩ := D.def_ 25 (d := d__law_tables) rfl
  have A__law_tables : At K mg "_law_tables" s__law_tables [] [] _ _ := ⟨F__law_tables, He.glo_ok X G (D.fact 21 (f := .glo "_law_tables") rfl)⟩
  obtain ⟨fd__law_turned, F__law_turned⟩ := D.def_ 26 (d := d__law_turned) rfl
  have A__law_turned : At K mg "_law_turned" s__law_turned [] [] _ _ := ⟨F__law_turned, He.glo_ok X G (D.fact 22 (f := .glo "_law_turned") rfl)⟩
  obtain ⟨fd__law_row, F__law_row⟩ := D.def_ 27 (d := d__law_row) rfl
  have A__law_row : At K mg "_law_row" s__law_row [] [] _ _ := ⟨F__law_row, He.glo_ok X G (D.fact 23 (f := .glo "_law_row") rfl)⟩
  obtain ⟨fd__law_text, F__law_text⟩ := D.def_ 28 (d := d__law_text) rfl
  have A__law_text : At K mg "_law_text" s__law_text [] [] _ _ := ⟨F__law_text, He.glo_ok X G (D.fact 24 (f := .glo "_law_text") rfl)⟩
  obtain ⟨fd__law_alike, F__law_alike⟩ := D.def_ 29 (d := d__law_alike) rfl
  have A__law_alike : At K mg "_law_alike" s__law_alike [] [] _ _ := ⟨F__law_alike, He.glo_ok X G (D.fact 25 (f := .glo "_law_alike") rfl)⟩
  obtain ⟨fd__law_each_unlike, F__law_each_unlike⟩ := D.def_ 30 (d := d__law_each_unlike) rfl
  have A__law_each_unlike : At K mg "_law_each_unlike" s__law_each_unlike [] [] _ _ := ⟨F__law_each_unlike, He.glo_ok X G (D.fact 26 (f := .glo "_law_each_unlike") rfl)⟩
  obtain ⟨fd__law_tuples, F__law_tuples⟩ := D.def_ 31 (d := d__law_tuples) rfl
  have A__law_tuples : At K mg "_law_tuples" s__law_tuples [] [] _ _ := ⟨F__law_tuples, He.glo_ok X G (D.fact 27 (f := .glo "_law_tuples") rfl)⟩
  obtain ⟨fd__law_read_right, F__law_read_right⟩ := D.def_ 32 (d := d__law_read_right) rfl
  have A__law_read_right : At K mg "_law_read_right" s__law_read_right [] [] _ _ := ⟨F__law_read_right, He.glo_ok X G (D.fact 28 (f := .glo "_law_read_right") rfl)⟩
  obtain ⟨fd_law, F_law⟩ := D.def_ 33 (d := d_law) rfl
  have A_law : At K mg "law" s_law [] [] _ _ := ⟨F_law, He.glo_ok X G (D.fact 29 (f := .glo "law") rfl)⟩
  have e := hfa.symm.trans A_law.mgf
  cases e
  have b := FunD.bindsA (ps := ["script"]) F_law fun _ _ _ _ _ _ us hl => match us, hl with | [_], _ => rfl
  refine ⟨_, fun s v => b s [v] rfl, fun base => ?_⟩
  have c_is_integer := ok_is_integer (P := P) (w := w) (base := base) A_is_integer T 
  have c_is_number := ok_is_number (P := P) (w := w) (base := base) A_is_number T c_is_integer
  have c_is_below := ok_is_below (P := P) (w := w) (base := base) A_is_below T c_is_number
  have c_is_within := ok_is_within (P := P) (w := w) (base := base) A_is_within T c_is_integer
  have c__law_take := ok__law_take (P := P) (w := w) (base := base) A__law_take T 
  have c_is_sequence := ok_is_sequence (P := P) (w := w) (base := base) A_is_sequence T 
  have c_is_table := ok_is_table (P := P) (w := w) (base := base) A_is_table T c_is_sequence c_is_below
  have c_check_tables := ok_check_tables (P := P) (w := w) (base := base) A_check_tables T c_is_sequence c_is_table
  have c_Machine := ok_Machine (P := P) (w := w) (base := base) F_Machine___init__ (He.mkr_ok (D.fact 59 (f := .mkr "Machine") rfl)) T c_check_tables
  have e_Machine := ok_Machine___eq__ (P := P) (w := w) (base := base) F_Machine___eq__ (He.meth_ok (D.fact 63 (f := .meth "Machine" "__eq__") rfl)) (NeB.ok x2) T 
  have c_need_state := ok_need_state (P := P) (w := w) (base := base) A_need_state T c_is_below
  have c_Link := ok_Link (P := P) (w := w) (base := base) F_Link___init__ (He.mkr_ok (D.fact 65 (f := .mkr "Link") rfl)) T c_need_state c_is_within
  have e_Link := ok_Link___eq__ (P := P) (w := w) (base := base) F_Link___eq__ (He.meth_ok (D.fact 71 (f := .meth "Link" "__eq__") rfl)) (NeB.ok x3) T e_Machine
  have c_is_text := ok_is_text (P := P) (w := w) (base := base) A_is_text T 
  have c_numbers_text := ok_numbers_text (P := P) (w := w) (base := base) A_numbers_text T 
  have c__law_row := ok__law_row (P := P) (w := w) (base := base) A__law_row T 
  have c_read_number := ok_read_number (P := P) (w := w) (base := base) A_read_number T 
  have c_read_numbers := ok_read_numbers (P := P) (w := w) (base := base) A_read_numbers T c_read_number
  have c_machine_text := ok_machine_text (P := P) (w := w) (base := base) A_machine_text T c_numbers_text
  have c__law_text := ok__law_text (P := P) (w := w) (base := base) A__law_text T c__law_row
  have c_link_text := ok_link_text (P := P) (w := w) (base := base) A_link_text T c_machine_text c_numbers_text
  have c_read_lines := ok_read_lines (P := P) (w := w) (base := base) A_read_lines T c_read_number c_read_numbers c_Machine
  have c_read_machine := ok_read_machine (P := P) (w := w) (base := base) A_read_machine T c_is_text c_read_lines
  have c_read_link := ok_read_link (P := P) (w := w) (base := base) A_read_link T c_is_text c_read_lines c_read_numbers c_Link
  have c__law_box := ok__law_box (P := P) (w := w) (base := base) A__law_box T 
  have c__law_same := ok__law_same (P := P) (w := w) (base := base) A__law_same T 4
  have c__law_tuples := ok__law_tuples (P := P) (w := w) (base := base) A__law_tuples T 
  have c__law_tables := ok__law_tables (P := P) (w := w) (base := base) A__law_tables T c__law_take
  have c__law_turned := ok__law_turned (P := P) (w := w) (base := base) A__law_turned T c__law_take
  have c__law_alike := ok__law_alike (P := P) (w := w) (base := base) A__law_alike T c__law_same e_Machine e_Link
  have c__law_read_right := ok__law_read_right (P := P) (w := w) (base := base) A__law_read_right T c_read_machine c__law_text c_read_link c__law_row c__law_same c__law_tuples c_Link c_Machine c_machine_text c_link_text c__law_alike
  have c__law_each_unlike := ok__law_each_unlike (P := P) (w := w) (base := base) A__law_each_unlike T c_Machine c_Link c__law_take c__law_alike
  exact fn_to0 (ok_law (P := P) (w := w) (base := base) A_law T c__law_box c__law_take c__law_tables c__law_turned c__law_tuples c_Machine c_Link c__law_alike c__law_read_right c_read_machine c__law_text c__law_each_unlike c__law_same e_Machine e_Link) (fun vs H Q E h => h)
end P45
open PySem PySem.W PySem.Calls PyProof.Rows
theorem PySem.Challenge.cw_pagesagain_k45_machines_and_links_side_b_holds : PySem.Challenge.rw_pagesagain_k45_machines_and_links_side_b.Holds := by
  w_on; o_law
  refine HandSHeadRun.head_any (r := OpenLaw.row PySem.Challenge.rw_pagesagain_k45_machines_and_links_side_b) (q := view (OpenLaw.row PySem.Challenge.rw_pagesagain_k45_machines_and_links_side_b).prog [50]) (H := P45.hk) (ob := P45.ob) (M := 3200) (loose := P45.loose) (d := HandSHeadRun.topDef (OpenLaw.row PySem.Challenge.rw_pagesagain_k45_machines_and_links_side_b).prog 50) (kwd := []) P45.ob_eq
    (by kernel_rfl) (fun s => by kernel_rfl) P45.run (by kernel_rfl) (by kernel_rfl) (by kernel_rfl) (by rfl) (by first | assumption | decide +kernel) (by decide +kernel) ⟨rfl, rfl, rfl, rfl, rfl, by decide +kernel⟩ ?hw ?hc
  case hw => w_witness2
  case hc =>
    refine L2.walk_ofE (l := PySem.Challenge.rw_pagesagain_k45_machines_and_links_side_b) (n := 63) (k := 11) (x := "script") (CX := L2.CX0) rfl (by decide) (by kernel_rfl) ⟨rfl, by decide, by decide⟩ ?F (fun _ _ _ _ z => z)
    intro w mg fa h Y G hmg0
    obtain ⟨K, KX, c⟩ := Y
    have hmg : mg ("law" : PySem.Str) = some (.ref fa) := by
      have e : (HandSHeadRun.topDef (OpenLaw.row PySem.Challenge.rw_pagesagain_k45_machines_and_links_side_b).prog 50).name = ("law" : PySem.Str) := by kernel_rfl
      rw [← e]
      exact hmg0
    obtain ⟨fd, hb, hF⟩ := P45.facts (P := (PySem.Challenge.rw_pagesagain_k45_machines_and_links_side_b).prog) (w := w) KX G hmg c
    exact ⟨K, fd, P45.sp_law K, KX, hb, fun H a ns hl _ hS => ⟨a, ns, rfl, hS, fun _ => rfl⟩, fun base _ _ => hF base⟩
