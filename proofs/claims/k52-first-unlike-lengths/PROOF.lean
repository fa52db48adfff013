import PyProof.Rows.All
import Wide.All
import OpenK.AllK
import Wide.FinOn
import HandS.ForMost
import HandS.ForExc
import HandS.Wide
import HandS.Deep
import HandS.More
import HandS.IsInst
import HandS.Style
import HandS.Property
import HandS.ExcInit
import HandS.ExcField
import HandS.Codes
import HandS.Sort
import HandS.TupLen
import KE.KSortTupG
import OpenK.KOps
import HandS.TryMany
import HandS.Walk
import HandS.TupAny
import HandS.NoneIn
import HandS.ExcIs
import KE.KExcIs
import PyProof.IsRules
import PySem.Challenge.RW_sandthreads_k52_first_unlike_lengths
set_option Elab.async false
set_option linter.all false
set_option maxRecDepth 100000
set_option maxHeartbeats 4000000
namespace TK
open PySem PySem.Spec PyProof.Rows L2
section
variable {σ : L2.St} {H : Hp} {Q : VK} {QT : Bool → Hp → Prop} {K : PySem.W.Frag} {D : Ends}
theorem r_var {i : Nat} {v : V} (e : σ[i]? = some (some v)) (q : Q v H) : tVar i σ H Q := ⟨v, e, q⟩
theorem r_c {v : V} (q : Q v H) : tC v σ H Q := q
theorem r_op {r : R2} {ta tb : TE} (q : ta σ H fun x H1 => tb σ H1 fun y H2 => r x y H2 Q) : tOp r ta tb σ H Q := q
theorem r_un {r : V → Hp → VK → Prop} {ta : TE} (q : ta σ H fun x H1 => r x H1 Q) : tUn r ta σ H Q := q
theorem r_I0 {g : Int → Int → V} {i j : Int} (q : Q (g i j) H) : rI0 g (.int i) (.int j) H Q := ⟨i, j, rfl, rfl, q⟩
theorem r_I {C : Int → Int → Prop} {g : Int → Int → V} {i j : Int} (c : C i j) (q : Q (g i j) H) : rI C g (.int i) (.int j) H Q := ⟨i, j, rfl, rfl, c, q⟩
theorem r_U {g : Int → V} {i : Int} (q : Q (g i) H) : rU g (.int i) H Q := ⟨i, rfl, q⟩
theorem r_eq {x y : V} (s : scal x y = true) (q : Q (.bl (decide (x = y))) H) : rEq x y H Q := ⟨s, q⟩
theorem r_ne {x y : V} (s : scal x y = true) (q : Q (.bl (!decide (x = y))) H) : rNe x y H Q := ⟨s, q⟩
theorem r_test {t : TE} (q : t σ H fun x H' => ∃ k, x = .bl k ∧ QT k H') : tTest t σ H QT := q
theorem r_B {t : TE} (q : t σ H fun x H' => ∃ k, x = .bl k ∧ QT k H') : tB t σ H QT := q
theorem r_bl {b : Bool} {P : Bool → Prop} (q : P b) : ∃ k, V.bl b = .bl k ∧ P k := ⟨b, rfl, q⟩
theorem r_not {t : TT} (q : t σ H fun c H1 => QT (!c) H1) : tNot t σ H QT := q
theorem r_and {t u : TT} (q : t σ H fun c H1 => if c = true then u σ H1 QT else QT false H1) : tAnd t u σ H QT := q
theorem r_or {t u : TT} (q : t σ H fun c H1 => if c = true then QT true H1 else u σ H1 QT) : tOr t u σ H QT := q
theorem r_andV {ta tb : TE} (q : ta σ H fun x H1 => ∃ c, x = .bl c ∧ if c = true then tb σ H1 Q else Q (.bl false) H1) : tAndV ta tb σ H Q := q
theorem r_orV {ta tb : TE} (q : ta σ H fun x H1 => ∃ c, x = .bl c ∧ if c = true then Q (.bl true) H1 else tb σ H1 Q) : tOrV ta tb σ H Q := q
theorem r_notV {ta : TE} (q : ta σ H fun x H1 => ∃ c, x = .bl c ∧ Q (.bl (!c)) H1) : tNotV ta σ H Q := q
theorem r_ifE {t : TT} {ta tb : TE} (q : t σ H fun c H1 => if c = true then ta σ H1 Q else tb σ H1 Q) : tIf t ta tb σ H Q := q
theorem r_isN {ta : TE} (q : ta σ H fun x H1 => Q (.bl (decide (x = .non))) H1) : tIsN ta σ H Q := q
theorem r_notN {ta : TE} (q : ta σ H fun x H1 => Q (.bl (!decide (x = .non))) H1) : tNotN ta σ H Q := q
theorem r_nil {QA : List V → Hp → Prop} (q : QA [] H) : tNil σ H QA := q
theorem r_cons {ta : TE} {tr : TA} {QA : List V → Hp → Prop} (q : ta σ H fun x H1 => tr σ H1 fun xs H2 => QA (x :: xs) H2) : tCons ta tr σ H QA := q
theorem r_CB {r : List V → Hp → VK → Prop} {t : TA} (q : t σ H fun vs H1 => r vs H1 Q) : tCB r t σ H Q := q
theorem r_call {sp : Sp} {dvs : List V} {E : XK} {t : TA} (q : t σ H fun vs H1 => sp (vs ++ dvs) H1 Q E) : tCall sp dvs E t σ H Q := q
theorem r_callS {sp : Sp} {E : L2.St → XK} {t : TA} (q : t σ H fun vs H1 => sp vs H1 Q (E σ)) : tCallS sp E t σ H Q := q
theorem r_tup {t : TA} (q : t σ H fun xs H1 => xs.length ≤ sizeLine ∧ ∀ p, H1 p = none → Q (.ref p) (upd H1 p (.tup xs))) : tTup t σ H Q := q
theorem r_lst {t : TA} (q : t σ H fun xs H1 => xs.length ≤ sizeLine ∧ ∀ p, H1 p = none → Q (.ref p) (upd H1 p (.lst xs))) : tLst t σ H Q := q
theorem r_chain {r r' : R2} {ta tb tc : TE} (q : ta σ H fun x H1 => tb σ H1 fun y H2 => r x y H2 fun z H3 => ∃ k, z = .bl k ∧
    if k = true then tc σ H3 fun u H4 => r' y u H4 Q else Q (.bl false) H3) : tChain r r' ta tb tc σ H Q := q
/-- statements -/
theorem r_seq {t u : TS} (q : t { D with nx := u D } σ H) : tSeq t u D σ H := q
theorem r_next (q : D.nx σ H) : tNext D σ H := q
theorem r_ret {te : TE} (q : te σ H D.rt) : tRet te D σ H := q
theorem r_retN (q : D.rt .non H) : tRetN D σ H := q
theorem r_drop {te : TE} (q : te σ H fun _ H1 => D.nx σ H1) : tDrop te D σ H := q
theorem r_asg {te : TE} {g : TG} (q : te σ H fun x H1 => g x σ H1 D.nx) : tAsg te g D σ H := q
theorem r_ifS {c : TT} {t u : TS} (q : c σ H fun b H1 => if b = true then t D σ H1 else u D σ H1) : tIfS c t u D σ H := q
theorem r_brk (q : D.bk σ H) : tBreak D σ H := q
theorem r_cont (q : D.ct σ H) : tCont D σ H := q
variable {QG : L2.St → Hp → Prop}
theorem r_gN {i : Nat} {v : V} (q : QG (σ.set i (some v)) H) : gName i v σ H QG := q
theorem r_gT {n : Nat} {t : TGs} {a : Addr} {xs : List V} (s : H a = some (.tup xs)) (l : xs.length = n) (q : t xs σ H QG) : gTup K n t (.ref a) σ H QG := ⟨a, xs, rfl, SqT.of s, l, q⟩
theorem r_gC {t : TG} {u : TGs} {v : V} {r : List V} (q : t v σ H fun σ' H' => u r σ' H' QG) : gCons t u (v :: r) σ H QG := ⟨v, r, rfl, q⟩
theorem r_gZ (q : QG σ H) : gNil [] σ H QG := ⟨rfl, q⟩
theorem r_gS {to ti : TE} {t : TSet} {v : V} (q : to σ H fun o H1 => ti σ H1 fun i H2 => t o i v H2 fun H3 => QG σ H3) : gSub to ti t v σ H QG := q
theorem r_fld {ta : TE} {f : Str} (q : ta σ H fun x H1 => ∃ a C dx fs v, x = .ref a ∧ H1 a = some (.ins C dx fs) ∧ Cls K C ∧ NoAttr K C f ∧ fs.lookup f = some v ∧ Q v H1) : tFld K ta f σ H Q := q
end

/-! named readings -/
section
variable {X : Cx}
def rLen (K : PySem.W.Frag) : List V → Hp → VK → Prop := fun xs H Q => ∃ p ys, xs = [.ref p] ∧ (SqL K H p ys ∨ SqT K H p ys) ∧ Q (.int ys.length) H
theorem c_len : CallR X (.builtin "len") (TK.rLen X.K) := call_len_seq
def rLenS : List V → Hp → VK → Prop := fun xs H Q => ∃ z : Str, xs = [.str z] ∧ z.length ≤ sizeLine ∧ Q (.int z.length) H
theorem c_lenS : CallR X (.builtin "len") TK.rLenS := call_len_str
def rInt1 : List V → Hp → VK → Prop := fun xs H Q => (∃ i, xs = [.int i] ∧ Q (.int i) H) ∨ ∃ k, xs = [.bl k] ∧ Q (.int (if k then 1 else 0)) H
theorem c_int : CallR X (.type "int") rInt1 := call_int1
def rAbs : List V → Hp → VK → Prop := fun xs H Q => ∃ i, xs = [.int i] ∧ Q (.int (if i < 0 then -i else i)) H
theorem c_abs : CallR X (.builtin "abs") rAbs := call_abs
def rMax2 : List V → Hp → VK → Prop := fun xs H Q => ∃ i j, xs = [.int i, .int j] ∧ Q (.int (if j > i then j else i)) H
theorem c_max (hc : X.calm = true) : CallR X (.builtin "max") TK.rMax2 := call_max2 hc
def rMin2 : List V → Hp → VK → Prop := fun xs H Q => ∃ i j, xs = [.int i, .int j] ∧ Q (.int (if j < i then j else i)) H
theorem c_min (hc : X.calm = true) : CallR X (.builtin "min") TK.rMin2 := call_min2 hc
def rListOf (K : PySem.W.Frag) : List V → Hp → VK → Prop := fun xs H Q => ∃ p ys, xs = [.ref p] ∧ (SqL K H p ys ∨ SqT K H p ys) ∧ ∀ l, H l = none → Q (.ref l) (upd H l (.lst ys))
theorem c_list : CallR X (.type "list") (rListOf X.K) := call_list_of
def rInsert : V → List V → Hp → VK → Prop := fun x vs H Q => ∃ (l : Addr) (xs : List V) (i : Int) (y : V), x = .ref l ∧ vs = [.int i, y] ∧ H l = some (.lst xs) ∧ xs.length < sizeLine ∧ 0 ≤ i ∧ i < 2 ^ 63 ∧
    Q .non (upd H l (.lst (xs.take i.toNat ++ [y] ++ xs.drop i.toNat)))
theorem m_insert : MtR X "list.insert" rInsert := mt_insert
def rIsNo : R2 := fun x y H Q => y = .non ∧ Q (.bl (decide (x = .non))) H
theorem o_isN : OpR X (compareOp .Is) rIsNo := op_isN
def rNotNo : R2 := fun x y H Q => y = .non ∧ Q (.bl (!decide (x = .non))) H
theorem o_notN : OpR X (compareOp .IsNot) rNotNo := op_notN
def rAddS : R2 := fun x y H Q => ∃ i j : Str, x = .str i ∧ y = .str j ∧ i.length + j.length ≤ sizeLine ∧ Q (.str (i ++ j)) H
theorem o_addS : OpR X (binaryOp .Add) TK.rAddS := op_add_str
end
section
variable {σ : L2.St} {H : Hp} {Q : VK} {K : PySem.W.Frag} {D : Ends} {QG : L2.St → Hp → Prop}
theorem r_ixL {p : Addr} {xs : List V} {i : Int} {v : V} (h : H p = some (.lst xs)) (a : atI xs i = some v) (q : Q v H) : rIxL K (.ref p) (.int i) H Q := ⟨p, xs, i, v, rfl, rfl, SqL.of h, a, q⟩
theorem r_ixT {p : Addr} {xs : List V} {i : Int} {v : V} (h : H p = some (.tup xs)) (a : atI xs i = some v) (q : Q v H) : rIxT K (.ref p) (.int i) H Q := ⟨p, xs, i, v, rfl, rfl, SqT.of h, a, q⟩
theorem r_setL {p : Addr} {xs : List V} {k : Int} {j : Nat} {v : V} {QH : Hp → Prop} (h : H p = some (.lst xs)) (e : ixN xs.length k = some j) (q : QH (upd H p (.lst (xs.set j v)))) : rSetL (.ref p) (.int k) v H QH := ⟨p, xs, k, j, rfl, rfl, h, e, q⟩
theorem r_len {p : Addr} {xs : List V} (h : H p = some (.lst xs)) (q : Q (.int xs.length) H) : TK.rLen K [.ref p] H Q := ⟨p, xs, rfl, .inl (SqL.of h), q⟩
theorem r_lenT {p : Addr} {xs : List V} (h : H p = some (.tup xs)) (q : Q (.int xs.length) H) : TK.rLen K [.ref p] H Q := ⟨p, xs, rfl, .inr (SqT.of h), q⟩
theorem r_int1 {i : Int} (q : Q (.int i) H) : rInt1 [.int i] H Q := .inl ⟨i, rfl, q⟩
theorem r_abs {i : Int} (q : Q (.int (if i < 0 then -i else i)) H) : rAbs [.int i] H Q := ⟨i, rfl, q⟩
theorem r_max {i j : Int} (q : Q (.int (if j > i then j else i)) H) : TK.rMax2 [.int i, .int j] H Q := ⟨i, j, rfl, q⟩
theorem r_min {i j : Int} (q : Q (.int (if j < i then j else i)) H) : TK.rMin2 [.int i, .int j] H Q := ⟨i, j, rfl, q⟩
theorem r_listOf {p : Addr} {xs : List V} (h : H p = some (.lst xs)) (q : ∀ l, H l = none → Q (.ref l) (upd H l (.lst xs))) : rListOf K [.ref p] H Q := ⟨p, xs, rfl, .inl (SqL.of h), q⟩
theorem r_isNo {x : V} (q : Q (.bl (decide (x = .non))) H) : rIsNo x .non H Q := ⟨rfl, q⟩
theorem r_notNo {x : V} (q : Q (.bl (!decide (x = .non))) H) : rNotNo x .non H Q := ⟨rfl, q⟩
theorem r_bm {T : String} {r : V → List V → Hp → VK → Prop} {to : TE} {t : TA} (q : to σ H fun x H1 => tyV K T x H1 ∧ t σ H1 fun xs H2 => r x xs H2 Q) : tBM K T r to t σ H Q := q
theorem r_bm0 {T : String} {r : V → List V → Hp → VK → Prop} {to : TE} (q : to σ H fun x H1 => tyV K T x H1 ∧ r x [] H1 Q) : tBM0 K T r to σ H Q := q
theorem r_tyL {p : Addr} {xs : List V} {R : Prop} (h : H p = some (.lst xs)) (q : R) : tyV K "list" (.ref p) H ∧ R := ⟨.inl ⟨rfl, _, SqL.of h⟩, q⟩
theorem r_append {l : Addr} {xs : List V} {y : V} (h : H l = some (.lst xs)) (z : xs.length < sizeLine) (q : Q .non (upd H l (.lst (xs ++ [y])))) : rAppend (.ref l) [y] H Q := ⟨l, xs, y, rfl, rfl, h, z, q⟩
theorem r_insert {l : Addr} {xs : List V} {i : Int} {y : V} (h : H l = some (.lst xs)) (z : xs.length < sizeLine) (h0 : 0 ≤ i) (h1 : i < 2 ^ 63) (q : Q .non (upd H l (.lst (xs.take i.toNat ++ [y] ++ xs.drop i.toNat)))) : rInsert (.ref l) [.int i, y] H Q := ⟨l, xs, i, y, rfl, rfl, h, z, h0, h1, q⟩
theorem r_tupN {xs : List V} {R : Addr → Hp → Prop} (l : xs.length ≤ 1000) (q : ∀ p, H p = none → R p (upd H p (.tup xs))) : xs.length ≤ sizeLine ∧ ∀ p, H p = none → R p (upd H p (.tup xs)) := ⟨Nat.le_trans l (by decide), q⟩
theorem r_sz {n : Nat} {B : Prop} (l : n ≤ 1000) (q : B) : n ≤ sizeLine ∧ B := ⟨Nat.le_trans l (by decide), q⟩
theorem r_ret1 {te : TE} (q : te σ H D.rt) : tRet te D σ H := q
theorem r_ite {c : Prop} [Decidable c] {A B : Prop} (h1 : c → A) (h2 : ¬ c → B) : if decide c = true then A else B := by
  by_cases h : c
  · rw [if_pos (decide_eq_true h)]; exact h1 h
  · rw [if_neg (by simpa using h)]; exact h2 h
theorem r_iteN {c : Prop} [Decidable c] {A B : Prop} (h1 : ¬ c → A) (h2 : c → B) : if (!decide c) = true then A else B := by
  by_cases h : c
  · rw [if_neg (by simpa using h)]; exact h2 h
  · rw [if_pos (by simpa using h)]; exact h1 h
theorem r_iteNB {b : Bool} {A B : Prop} (h1 : b = false → A) (h2 : b = true → B) : if (!b) = true then A else B := by
  cases b
  · exact h1 rfl
  · exact h2 rfl
theorem r_iteVT {x y : V} {A B : Prop} (h : x = y) (q : A) : if decide (x = y) = true then A else B := by
  rw [if_pos (decide_eq_true h)]; exact q
theorem r_iteVF {x y : V} {A B : Prop} (h : x ≠ y) (q : B) : if decide (x = y) = true then A else B := by
  rw [if_neg (by simpa using h)]; exact q
theorem r_iteNf {A B : Prop} (q : A) : if (!false) = true then A else B := q
theorem r_iteNt {A B : Prop} (q : B) : if (!true) = true then A else B := q
theorem r_iteB {b : Bool} {A B : Prop} (h1 : b = true → A) (h2 : b = false → B) : if b = true then A else B := by
  cases b
  · exact h2 rfl
  · exact h1 rfl
end
section
variable {σ : L2.St} {H H1 : Hp} {K : PySem.W.Frag} {D : Ends}
theorem r_for {wi : TI} {g : TG} {tb : TS} (q : wi σ H fun J H1 => ∃ W : Nat → Nat → L2.St → Hp → Prop, (∃ m, W 0 m σ H1) ∧ ∀ i m σ H, W i m σ H →
  (J.stop i H ∧ D.nx σ H) ∨ (J.go i H ∧ ∃ N : L2.St → Hp → Prop, (∀ σ' H', N σ' H' → ∃ m', m' < m ∧ W (i + 1) m' σ' H') ∧ ∀ x H', J.yld i H x H' → g x σ H' fun σ2 H2 => tb { D with nx := N, ct := N, bk := D.nx } σ2 H2)) : tFor wi g tb D σ H := q
theorem r_rng1 {ta : TA} {R : It → Hp → Prop} (q : ta σ H fun vs H1 => ∃ j : Int, vs = [.int j] ∧ -(2 ^ 62) ≤ j ∧ j < 2 ^ 62 ∧ R (Itr 0 j.toNat) H1) : iRng1 ta σ H R := q
theorem r_rng2 {ta : TA} {R : It → Hp → Prop} (q : ta σ H fun vs H1 => ∃ i j : Int, vs = [.int i, .int j] ∧ (-(2 ^ 62) ≤ i ∧ i < 2 ^ 62 ∧ -(2 ^ 62) ≤ j ∧ j < 2 ^ 62) ∧ R (Itr i (j - i).toNat) H1) : iRng2 ta σ H R := q
theorem r_rng3 {ta : TA} {R : It → Hp → Prop} (q : ta σ H fun vs H1 => ∃ (i j c : Int) (n : Nat), vs = [.int i, .int j, .int c] ∧ RgC i j c n ∧ R (Itc i c n) H1) : iRng3 ta σ H R := q
theorem r_iList {tl : TE} {R : It → Hp → Prop} (q : tl σ H fun x H1 => ∃ a, x = .ref a ∧ (∃ xs, SqL K H1 a xs) ∧ R (Itl K a) H1) : iList K tl σ H R := q
theorem r_lc {wi : TI} {g : TG} {tt : TT} {te : TE} {vs : List Nat} {Q : VK} (q : wi σ H fun J H1 => ∀ D, H1 D = none → ∃ W : Nat → Nat → Hp → Prop, (∃ m, W 0 m (upd H1 D (.lst []))) ∧ ∀ i m H, W i m H →
  (J.stop i H ∧ Q (.ref D) H) ∨ (J.go i H ∧ ∃ Nx : Hp → Prop, (∀ H', Nx H' → ∃ m', m' < m ∧ W (i + 1) m' H') ∧ ∀ x H', J.yld i H x H' → g x (wipe σ vs) H' fun σ2 H2 => wipe σ2 vs = wipe σ vs ∧ tt σ2 H2 fun b H3 =>
    if b = true then te σ2 H3 fun y H4 => ∃ acc, H4 D = some (.lst acc) ∧ acc.length < sizeLine ∧ Nx (upd H4 D (.lst (acc ++ [y]))) else Nx H3)) : tLc wi g tt te vs σ H Q := q
theorem _root_.L2.Same.new {q : Addr} {o : HO} (h : H q = none) : Same H (upd H q o) := fun a u e => by
  rw [upd_ne (ne_of_none e h)]
  exact e
theorem _root_.L2.Same.mut {H' : Hp} {p : Addr} {o : HO} (e : Same H H') (h : H p = none) : Same H (upd H' p o) := fun a u ha => by
  rw [upd_ne (ne_of_none ha h)]
  exact e a u ha
end
/-! statements joined by a word -/
abbrev tCut := @C8.tCut
theorem pss_cut {X : Cx} {st : Stmt} {rest : List Stmt} {t u : TS} (h1 : PS X st t) (h2 : PSs X rest u) : PSs X (st :: rest) (C8.tCut t u) := C8.pss_cut h1 h2
theorem r_yes {σ : L2.St} {H : Hp} {Q : Bool → Hp → Prop} (q : Q true H) : tYes σ H Q := q
/-! data -/
mutual
def okD : Nat → PyData → Bool
  | _, .none => true
  | _, .bool _ => true
  | _, .int _ => true
  | _, .str x => PyData.strOk x
  | 0, .list _ => false
  | 0, .tuple _ => false
  | n + 1, .list xs => decide (xs.length ≤ 1000000) && okDs n xs
  | n + 1, .tuple xs => decide (xs.length ≤ 1000000) && okDs n xs
  | _, .dict _ => false
def okDs : Nat → List PyData → Bool
  | _, [] => true
  | n, x :: xs => okD n x && okDs n xs
end
mutual
theorem okD_lay : ∀ (n : Nat) (d : PyData), okD n d = true → d.canLay0 = true ∧ d.depth ≤ n
  | _, .none, _ => by simp [PyData.canLay0, PyData.depth]
  | _, .bool _, _ => by simp [PyData.canLay0, PyData.depth]
  | _, .int _, _ => by simp [PyData.canLay0, PyData.depth]
  | _, .str x, h => by
    have h' : PyData.strOk x = true := by simpa [okD] using h
    simp [PyData.canLay0, PyData.depth, h']
  | 0, .list _, h => by simp [okD] at h
  | 0, .tuple _, h => by simp [okD] at h
  | n + 1, .list xs, h => by
    have := okDs_lay n xs (by rw [okD, Bool.and_eq_true] at h; exact h.2)
    simp only [PyData.canLay0, PyData.depth]
    exact ⟨this.1, by omega⟩
  | n + 1, .tuple xs, h => by
    have := okDs_lay n xs (by rw [okD, Bool.and_eq_true] at h; exact h.2)
    simp only [PyData.canLay0, PyData.depth]
    exact ⟨this.1, by omega⟩
  | _, .dict _, h => by simp [okD] at h
theorem okDs_lay : ∀ (n : Nat) (ds : List PyData), okDs n ds = true → PyData.canLayAll0 ds = true ∧ PyData.depthAll ds ≤ n
  | _, [], _ => by simp [PyData.canLayAll0, PyData.depthAll]
  | n, x :: xs, h => by
    rw [okDs, Bool.and_eq_true] at h
    have h1 := okD_lay n x h.1
    have h2 := okDs_lay n xs h.2
    simp only [PyData.canLayAll0, PyData.depthAll, Bool.and_eq_true]
    exact ⟨⟨h1.1, h2.1⟩, by omega⟩
end
theorem okD_shaped {n : Nat} {d : PyData} (h : okD n d = true) (hn : n ≤ 64) : SeqAt.shaped d = true := by
  have := okD_lay n d h
  unfold SeqAt.shaped
  rw [Bool.and_eq_true]
  exact ⟨this.1, decide_eq_true (Nat.le_trans this.2 hn)⟩
theorem okD_refl {n : Nat} {d : PyData} (h : okD n d = true) : PyData.eqv d d = true := SeqAt.eqv_refl d (okD_lay n d h).1
theorem okDs_all {n : Nat} : ∀ {ds : List PyData}, (∀ d ∈ ds, okD n d = true) → okDs n ds = true
  | [], _ => rfl
  | x :: xs, h => by
    rw [okDs, Bool.and_eq_true]
    exact ⟨h x (by simp), okDs_all fun d hd => h d (by simp [hd])⟩
section
variable {σ : L2.St} {H : Hp} {Q : VK} {QT : Bool → Hp → Prop} {K : PySem.W.Frag} {D : Ends}
theorem r_din {ty td : TE} (q : ty σ H fun y H1 => td σ H1 fun x H2 => ∃ a o, x = .ref a ∧ DGet H2 a y o ∧ Q (.bl o.isSome) H2) : tDIn ty td σ H Q := q
theorem r_dnotin {ty td : TE} (q : ty σ H fun y H1 => td σ H1 fun x H2 => ∃ a o, x = .ref a ∧ DGet H2 a y o ∧ Q (.bl (!o.isSome)) H2) : tDNotIn ty td σ H Q := q
theorem r_dget1 {td ty : TE} (q : td σ H fun x H1 => ∃ a, x = .ref a ∧ IsD H1 a ∧ ty σ H1 fun y H2 => ∃ o, DGet H2 a y o ∧ Q (o.getD .non) H2) : tDGet1 td ty σ H Q := q
theorem r_dget {td ty : TE} (q : td σ H fun x H1 => ty σ H1 fun y H2 => ∃ a v, x = .ref a ∧ DGet H2 a y (some v) ∧ Q v H2) : tDGet td ty σ H Q := q
theorem r_dput {td ty tv : TE} (q : tv σ H fun v H1 => td σ H1 fun x H2 => ty σ H2 fun y H3 => ∃ a H4, x = .ref a ∧ DPut H3 a y v H4 ∧ D.nx σ H4) : sDPut td ty tv D σ H := q
theorem r_dnew (q : ∀ p, H p = none → Q (.ref p) (upd H p (.dT []))) : tDNewT σ H Q := q
theorem r_sfld {ta tv : TE} {f : Str} (q : tv σ H fun y H1 => ta σ H1 fun x H2 => ∃ a C dx fs, x = .ref a ∧ H2 a = some (.ins C dx fs) ∧ Cls K C ∧ NoAttr K C f ∧ fs.length < 1000 ∧
    D.nx σ (upd H2 a (.ins C dx (putF f y fs)))) : sFld K ta tv f D σ H := q
theorem r_mkO {C : Addr} {sp : Sp} {dvs : List V} {ta : TA} {QX : XK} (q : ta σ H fun vs H1 => vs.length ≤ 1000 ∧ ∀ a, H1 a = none → sp (.ref a :: (vs ++ dvs)) (upd H1 a (exo a C none))
    (fun v H2 => v = .non ∧ ∃ (d : Addr) (fs : List (Str × V)), H2 a = some (exo a C (some d)) ∧ H2 d = some (exd d fs) ∧ H1 d = none ∧ QX (.ref C) (some d) (upd (del H2 a) d (.xd fs))) (fun _ _ _ => False)) : tMkO C sp dvs ta σ H QX := q
theorem r_make {C : Addr} {sp : Sp} {dvs : List V} {E : XK} {t : TA} (q : t σ H fun vs H1 => ∀ x dx, H1 x = none → H1 dx = none → dx ≠ x →
    sp (.ref x :: (vs ++ dvs)) (upd (upd H1 dx (.own x)) x (.ins C dx [])) (fun v H2 => v = .non ∧ Q (.ref x) H2) E) : tMake C sp dvs E t σ H Q := q
theorem r_meth {C : Addr} {m : Str} {sp : Sp} {dvs : List V} {E : XK} {ta : TE} {t : TA} (q : ta σ H fun x H1 => ∃ a dx fs, x = .ref a ∧ H1 a = some (.ins C dx fs) ∧ fs.lookup m = none ∧
    t σ H1 fun vs H2 => sp (x :: (vs ++ dvs)) H2 Q E) : tMeth C m sp dvs E ta t σ H Q := q
end
/-! is True, is False; isinstance -/
section
variable {X : Cx}
def rIsBool : R2 := fun x y H Q => ∃ b : Bool, y = .bl b ∧ Q (.bl (decide (x = .bl b))) H
theorem o_isBool : OpR X (compareOp .Is) rIsBool := by
  intro pins s σ H x y v u Q I rx ry h
  obtain ⟨b, rfl, q⟩ := h
  cases (show u = Value.bool b from ry)
  have fin : ∀ v' : Value, plainIs v' (.bool b) = true → (v' == Value.bool b) = decide (x = .bl b) → wpAny (model X.prog X.w) X.A (compareOp .Is v' (.bool b)) (EP X pins σ Q) X.xe s := fun v' hp e => by
    refine wpAny_is_plain hp ⟨.bl (decide (x = .bl b)), H, I, ?_, q⟩
    rw [e]
    rfl
  cases x with
  | non => cases rx; exact fin _ rfl rfl
  | bl c => cases rx; exact fin _ rfl (by cases b <;> cases c <;> rfl)
  | int i => obtain ⟨t, rfl⟩ := rx; exact fin _ rfl rfl
  | str i => obtain ⟨t, rfl⟩ := rx; exact fin _ rfl rfl
  | byt i => obtain ⟨t, rfl⟩ := rx; exact fin _ rfl rfl
  | flt i => obtain ⟨t, rfl⟩ := rx; exact fin _ rfl rfl
  | ref i => cases rx; exact fin _ rfl rfl
  | ty i => cases rx; exact fin _ rfl rfl
end
theorem r_isBool {x : V} {b : Bool} {H : Hp} {Q : VK} (q : Q (.bl (decide (x = .bl b))) H) : rIsBool x (.bl b) H Q := ⟨b, rfl, q⟩
def tyD : PyData → String
  | .none => "NoneType"
  | .bool _ => "bool"
  | .int _ => "int"
  | .str _ => "str"
  | .list _ => "list"
  | .tuple _ => "tuple"
  | .dict _ => "dict"
theorem tyD_ok {K : PySem.W.Frag} {H : Hp} {x : V} {d : PyData} (h : Dp K H x d) : TyX K H x (.type (tyD d)) := by
  cases h with
  | non => exact .base .non
  | bl b => exact .base (.bl b)
  | int i => exact .base (.int i)
  | str s => exact .base (.str s)
  | lst h _ =>
    rcases h with (h | ⟨o, h⟩) | ⟨o, its, n, h, hc, _⟩
    · exact .base (.lst h)
    · exact .base (.frz h)
    · exact .kList h hc
  | tup h _ =>
    rcases h with (h | ⟨o, h⟩) | ⟨o, its, n, h, hc, _⟩
    · exact .base (.tup h)
    · exact .fTuple h
    · exact .kTuple h hc
theorem kt_NoneType_int : kitB "NoneType" "int" = some false := by decide +kernel
theorem kt_NoneType_bool : kitB "NoneType" "bool" = some false := by decide +kernel
theorem kt_NoneType_str : kitB "NoneType" "str" = some false := by decide +kernel
theorem kt_NoneType_tuple : kitB "NoneType" "tuple" = some false := by decide +kernel
theorem kt_NoneType_list : kitB "NoneType" "list" = some false := by decide +kernel
theorem kt_NoneType_dict : kitB "NoneType" "dict" = some false := by decide +kernel
theorem kt_bool_int : kitB "bool" "int" = some true := by decide +kernel
theorem kt_bool_bool : kitB "bool" "bool" = some true := by decide +kernel
theorem kt_bool_str : kitB "bool" "str" = some false := by decide +kernel
theorem kt_bool_tuple : kitB "bool" "tuple" = some false := by decide +kernel
theorem kt_bool_list : kitB "bool" "list" = some false := by decide +kernel
theorem kt_bool_dict : kitB "bool" "dict" = some false := by decide +kernel
theorem kt_int_int : kitB "int" "int" = some true := by decide +kernel
theorem kt_int_bool : kitB "int" "bool" = some false := by decide +kernel
theorem kt_int_str : kitB "int" "str" = some false := by decide +kernel
theorem kt_int_tuple : kitB "int" "tuple" = some false := by decide +kernel
theorem kt_int_list : kitB "int" "list" = some false := by decide +kernel
theorem kt_int_dict : kitB "int" "dict" = some false := by decide +kernel
theorem kt_str_int : kitB "str" "int" = some false := by decide +kernel
theorem kt_str_bool : kitB "str" "bool" = some false := by decide +kernel
theorem kt_str_str : kitB "str" "str" = some true := by decide +kernel
theorem kt_str_tuple : kitB "str" "tuple" = some false := by decide +kernel
theorem kt_str_list : kitB "str" "list" = some false := by decide +kernel
theorem kt_str_dict : kitB "str" "dict" = some false := by decide +kernel
theorem kt_list_int : kitB "list" "int" = some false := by decide +kernel
theorem kt_list_bool : kitB "list" "bool" = some false := by decide +kernel
theorem kt_list_str : kitB "list" "str" = some false := by decide +kernel
theorem kt_list_tuple : kitB "list" "tuple" = some false := by decide +kernel
theorem kt_list_list : kitB "list" "list" = some true := by decide +kernel
theorem kt_list_dict : kitB "list" "dict" = some false := by decide +kernel
theorem kt_tuple_int : kitB "tuple" "int" = some false := by decide +kernel
theorem kt_tuple_bool : kitB "tuple" "bool" = some false := by decide +kernel
theorem kt_tuple_str : kitB "tuple" "str" = some false := by decide +kernel
theorem kt_tuple_tuple : kitB "tuple" "tuple" = some true := by decide +kernel
theorem kt_tuple_list : kitB "tuple" "list" = some false := by decide +kernel
theorem kt_tuple_dict : kitB "tuple" "dict" = some false := by decide +kernel
theorem kt_dict_int : kitB "dict" "int" = some false := by decide +kernel
theorem kt_dict_bool : kitB "dict" "bool" = some false := by decide +kernel
theorem kt_dict_str : kitB "dict" "str" = some false := by decide +kernel
theorem kt_dict_tuple : kitB "dict" "tuple" = some false := by decide +kernel
theorem kt_dict_list : kitB "dict" "list" = some false := by decide +kernel
theorem kt_dict_dict : kitB "dict" "dict" = some true := by decide +kernel
theorem r_isi {K : PySem.W.Frag} {H : Hp} {Q : VK} {x : V} {d : PyData} {n : String} {b : Bool} (h : Dp K H x d) (k : kitB (tyD d) n = some b) (q : Q (.bl b) H) : rIsi K [x, .ty n] H Q := ⟨x, .ty n, _, _, b, rfl, .ty n, tyD_ok h, kit_ty k, q⟩
theorem _root_.L2.Same.rd {H H' : Hp} {a : Addr} {u : HO} (e : Same H H') (h : Rd H a u) : Rd H' a u := by
  rcases h with h | ⟨o, h⟩
  · exact .inl (e _ _ h)
  · exact .inr ⟨o, e _ _ h⟩
theorem _root_.L2.Same.seqT {K : PySem.W.Frag} {H H' : Hp} {a : Addr} {xs : List V} (e : Same H H') (h : SqT K H a xs) : SqT K H' a xs := by
  rcases h with h | h
  · exact .inl (e.rd h)
  · exact .inr h
mutual
theorem dp_same {K : PySem.W.Frag} {H H' : Hp} (e : Same H H') : ∀ (d : PyData) (x : V), Dp K H x d → Dp K H' x d
  | .none, _, h => by cases h; exact .non
  | .bool _, _, h => by cases h; exact .bl _
  | .int _, _, h => by cases h; exact .int _
  | .str _, _, h => by cases h; exact .str _
  | .list ds, _, h => by
    cases h with
    | lst h1 h2 => exact .lst (e.seq h1) (dps_same e ds _ h2)
  | .tuple ds, _, h => by
    cases h with
    | tup h1 h2 => exact .tup (e.seqT h1) (dps_same e ds _ h2)
  | .dict _, _, h => by cases h
theorem dps_same {K : PySem.W.Frag} {H H' : Hp} (e : Same H H') : ∀ (ds : List PyData) (xs : List V), DpAll K H xs ds → DpAll K H' xs ds
  | [], _, h => by cases h; exact .nil
  | d :: ds, _, h => by
    cases h with
    | cons h1 h2 => exact .cons (dp_same e d _ h1) (dps_same e ds _ h2)
end
theorem dps_len {K : PySem.W.Frag} {H : Hp} : ∀ {ds : List PyData} {xs : List V}, DpAll K H xs ds → xs.length = ds.length
  | [], _, h => by cases h; rfl
  | d :: ds, _, h => by
    cases h with
    | cons h1 h2 => simp [dps_len h2]
theorem dps_get {K : PySem.W.Frag} {H : Hp} : ∀ {ds : List PyData} {xs : List V} {i : Nat} {d : PyData}, DpAll K H xs ds → ds[i]? = some d → ∃ x, xs[i]? = some x ∧ Dp K H x d
  | [], _, i, d, h, e => by simp at e
  | d' :: ds, _, 0, d, h, e => by
    cases h with
    | cons h1 h2 =>
      simp at e
      subst e
      exact ⟨_, rfl, h1⟩
  | d' :: ds, _, i + 1, d, h, e => by
    cases h with
    | cons h1 h2 =>
      obtain ⟨x, hx, hd⟩ := dps_get (i := i) h2 (by simpa using e)
      exact ⟨x, by simpa using hx, hd⟩
/-! a method that may raise, within a try -/
section
variable {X : Cx} {CX : CXT} {k : Nat} {f C : Addr} {fd : FuncData} {ps : List Str} {sp : Sp} {E : L2.St → XK} {m : Str} {pos apos : Pos} {e o : PySem.Expr} {es : List PySem.Expr} {ta : TE} {t : TA}
def tMethE (C : Addr) (m : Str) (sp : Sp) (E : L2.St → XK) (ta : TE) (t : TA) : TE := fun σ H Q => ta σ H fun x H1 =>
  ∃ a dx fs, x = .ref a ∧ H1 a = some (.ins C dx fs) ∧ fs.lookup m = none ∧ t σ H1 fun vs H2 => sp (x :: vs) H2 Q (E σ)
theorem pe_methE {pl : Sem Bool} (he : PE X o ta) (c : Cls X.K C) (hm : Meth X.K C m f) (F : FnOk X.prog X.w X.K X.mg X.base CX k f fd ps sp) (hr : Room k X.A) (hb : Binds X.K fd ps []) (hx : ∀ σ, PassesAt CX X σ (E σ)) (ha : PA X (e :: es) t)
    (hst : starEach (e :: es) X.env = (false, eval e X.env) :: starEach es X.env := by rfl) (hpl : (backTo pos (starEach es X.env)).any (·.1) = false := by rfl)
    (ht : eval (.Call (.Attribute o m apos) (e :: es) [] pos) X.env = (do
      let ov ← eval o X.env; standAt apos.atName; let (f, first) ← holding [ov] (getMethod ov m pl)
      callWith pos f first (backTo pos (starEach (e :: es) X.env)) (backToKw pos (keywordEach [] X.env))) := by rfl) :
    PE X (.Call (.Attribute o m apos) (e :: es) [] pos) (tMethE C m sp E ta t) := by
  refine ⟨fun pins s σ H Q I h => ?_⟩
  refine PySem.W.methodCall_KW (pl := pl) (thn (he.run pins s σ H _ I h) fun u s1 hh => ?_) ht
  obtain ⟨x, H1, I1, rx, a, dx, fs, ex, ea, l, q⟩ := hh
  subst ex
  obtain rfl : u = Value.ref a := rx
  refine getmeth_ok I1 ea c hm l ?_
  refine PySem.W.callWith_K (first := [.ref a]) (h₀ := X.base) I.ok.mod.kin hm.kp (thn (ha.run pos pins s1 σ H1 _ I1 q) fun us s2 hh => ?_) hst hpl
  obtain ⟨vs, H2, I2, r, q2⟩ := hh
  exact ⟨I2.kIn, run_fnS (us := .ref a :: us) (vs := .ref a :: vs) F hr hb (hx σ) I2 (.cons rfl r) q2⟩
theorem r_methE {σ : L2.St} {H : Hp} {Q : VK} (q : ta σ H fun x H1 => ∃ a dx fs, x = .ref a ∧ H1 a = some (.ins C dx fs) ∧ fs.lookup m = none ∧ t σ H1 fun vs H2 => sp (x :: vs) H2 Q (E σ)) : tMethE C m sp E ta t σ H Q := q
theorem r_xf {σ : L2.St} {H : Hp} {Q : VK} {a : Addr} {cls : Value} {d : Option Addr} {te : TE} (q : te σ H fun x H1 => x = .ref a ∧ cls = .ref C ∧ ∃ (dd : Addr) (fs : List (Str × V)) (v : V), d = some dd ∧ H1 dd = some (.xd fs) ∧ fs.lookup m = some v ∧ Q v H1) : tXf a cls d C m te σ H Q := q
theorem r_slL {K : PySem.W.Frag} {H : Hp} {Q : VK} {a : Addr} {xs : List V} {lo hi : Option Int} (h : H a = some (.lst xs)) (q : ∀ p, H p = none → Q (.ref p) (upd H p (.lst (cutV xs lo hi)))) : rSlL K (.ref a) lo hi H Q := ⟨a, xs, rfl, SqL.of h, q⟩
theorem r_sl {σ : L2.St} {H : Hp} {Q : VK} {r : V → Option Int → Option Int → Hp → VK → Prop} {te : TE} {tl th : TO} (q : te σ H fun x H1 => tl σ H1 fun l H2 => th σ H2 fun u H3 => r x l u H3 Q) : tSl r te tl th σ H Q := q
theorem r_noPart {σ : L2.St} {H : Hp} {Q : Option Int → Hp → Prop} (q : Q none H) : tNoPart σ H Q := q
theorem r_part {σ : L2.St} {H : Hp} {te : TE} {Q : Option Int → Hp → Prop} (q : te σ H fun x H1 => ∃ i, x = .int i ∧ Q (some i) H1) : tPart te σ H Q := q
theorem r_partI {i : Int} {P : Int → Prop} (q : P i) : ∃ j, V.int i = .int j ∧ P j := ⟨i, rfl, q⟩
theorem r_extend {H : Hp} {Q : VK} {l b : Addr} {xs zs : List V} (h : H l = some (.lst xs)) (h2 : H b = some (.lst zs)) (z : xs.length + zs.length ≤ sizeLine) (q : Q .non (upd H l (.lst (xs ++ zs)))) : rExtend (.ref l) [.ref b] H Q := ⟨l, b, xs, zs, rfl, rfl, h, h2, z, q⟩
end
local macro_rules | `(tactic| walk_at "kit") => `(tactic| first
  | exact kt_NoneType_int
  | exact kt_NoneType_bool
  | exact kt_NoneType_str
  | exact kt_NoneType_tuple
  | exact kt_NoneType_list
  | exact kt_NoneType_dict
  | exact kt_bool_int
  | exact kt_bool_bool
  | exact kt_bool_str
  | exact kt_bool_tuple
  | exact kt_bool_list
  | exact kt_bool_dict
  | exact kt_int_int
  | exact kt_int_bool
  | exact kt_int_str
  | exact kt_int_tuple
  | exact kt_int_list
  | exact kt_int_dict
  | exact kt_str_int
  | exact kt_str_bool
  | exact kt_str_str
  | exact kt_str_tuple
  | exact kt_str_list
  | exact kt_str_dict
  | exact kt_list_int
  | exact kt_list_bool
  | exact kt_list_str
  | exact kt_list_tuple
  | exact kt_list_list
  | exact kt_list_dict
  | exact kt_tuple_int
  | exact kt_tuple_bool
  | exact kt_tuple_str
  | exact kt_tuple_tuple
  | exact kt_tuple_list
  | exact kt_tuple_dict
  | exact kt_dict_int
  | exact kt_dict_bool
  | exact kt_dict_str
  | exact kt_dict_tuple
  | exact kt_dict_list
  | exact kt_dict_dict)
local macro_rules | `(tactic| walk_at "ne") => `(tactic| first
  | assumption
  | (apply Ne.symm; assumption)
  | ((refine' ne_of_none ?na_ ?nb_); (case nb_ => assumption); (case na_ => walk_at "hl"))
  | ((refine' Ne.symm (ne_of_none ?na_ ?nb_)); (case nb_ => assumption); (case na_ => walk_at "hl")))
local macro_rules | `(tactic| walk_at "hl") => `(tactic| first
  | assumption
  | exact upd_same
  | ((refine Eq.trans (upd_ne ?ne_) ?_); (case ne_ => walk_at "ne"); walk_at "hl"))
local macro_rules | `(tactic| walk_at "cnd") => `(tactic| first
  | omega
  | exact ⟨by omega, by omega⟩
  | exact ⟨by decide, by decide, by decide⟩
  | exact Or.inl ⟨by omega, by omega⟩
  | exact Or.inr ⟨by omega, by omega⟩)
local macro_rules | `(tactic| walk_at "sz") => `(tactic| first
  | (refine Nat.lt_of_le_of_lt (m := 1000) ?_ (by decide); first | omega | (simp; omega)))
local macro_rules | `(tactic| walk_at "rs1") => `(tactic| first
  | ((with_reducible refine' r_var ?ee_ ?_); (case ee_ => rfl))
  | with_reducible refine r_c ?_
  | with_reducible refine r_op ?_
  | with_reducible refine r_un ?_
  | with_reducible refine r_I0 ?_
  | ((with_reducible refine' r_I ?cc_ ?_); (case cc_ => walk_at "cnd"))
  | with_reducible refine r_U ?_
  | ((with_reducible refine' r_eq ?ee_ ?_); (case ee_ => rfl))
  | ((with_reducible refine' r_ne ?ee_ ?_); (case ee_ => rfl))
  | with_reducible refine r_test ?_
  | with_reducible refine r_B ?_
  | with_reducible refine r_bl ?_
  | with_reducible refine r_seq ?_
  | with_reducible refine r_next ?_
  | with_reducible refine r_ret ?_
  | with_reducible refine r_retN ?_
  | with_reducible refine r_drop ?_
  | with_reducible refine r_asg ?_
  | with_reducible refine r_ifS ?_
  | with_reducible refine r_gN ?_
  | with_reducible refine r_gC ?_
  | ((with_reducible refine' r_gT ?ss_ ?ll_ ?_); (case ss_ => walk_at "hl"); (case ll_ => rfl))
  | with_reducible refine r_gZ ?_
  | with_reducible refine r_gS ?_
  | with_reducible refine r_nil ?_
  | with_reducible refine r_cons ?_
  | with_reducible refine r_CB ?_
  | with_reducible refine r_call ?_
  | with_reducible refine r_callS ?_
  | with_reducible refine r_tup ?_
  | with_reducible refine r_lst ?_
  | ((with_reducible refine r_sz ?ee_ ?_); (case ee_ => first | exact Nat.zero_le _ | (simp; done) | (simp; omega)))
  | with_reducible refine iteT ?_
  | with_reducible refine iteF ?_
  | with_reducible refine r_not ?_
  | with_reducible refine r_and ?_
  | with_reducible refine r_or ?_
  | with_reducible refine r_andV ?_
  | with_reducible refine r_orV ?_
  | with_reducible refine r_notV ?_
  | with_reducible refine r_ifE ?_
  | with_reducible refine r_isN ?_
  | with_reducible refine r_notN ?_
  | with_reducible refine r_chain ?_
  | with_reducible refine r_for ?_
  | with_reducible refine r_rng1 ?_
  | with_reducible refine r_rng2 ?_
  | with_reducible refine r_rng3 ?_
  | with_reducible refine r_iList ?_
  | with_reducible refine r_lc ?_
  | ((with_reducible refine r_iteVT ?hh_ ?_); (case hh_ => rfl))
  | ((with_reducible refine r_iteVF ?hh_ ?_); (case hh_ => (intro z; cases z)))
  | with_reducible refine r_isBool ?_
  | with_reducible refine r_methE ?_
  | with_reducible refine r_xf ?_
  | with_reducible refine r_sl ?_
  | with_reducible refine r_noPart ?_
  | with_reducible refine r_part ?_
  | with_reducible refine r_partI ?_
  | ((with_reducible refine' r_slL ?hh_ ?_); (case hh_ => walk_at "hl"))
  | ((with_reducible refine' r_extend ?hh_ ?jj_ ?zz_ ?_); (case hh_ => walk_at "hl"); (case jj_ => walk_at "hl"); (case zz_ => assumption))
  | with_reducible refine r_iteNf ?_
  | with_reducible refine r_iteNt ?_
  | ((with_reducible refine' r_isi ?hh_ ?kk_ ?_); (case hh_ => assumption); (case kk_ => walk_at "kit"))
  | with_reducible refine r_yes ?_
  | with_reducible refine r_din ?_
  | with_reducible refine r_dnotin ?_
  | with_reducible refine r_dget1 ?_
  | with_reducible refine r_dget ?_
  | with_reducible refine r_dput ?_
  | with_reducible refine r_sfld ?_
  | with_reducible refine r_mkO ?_
  | with_reducible refine r_make ?_
  | with_reducible refine r_meth ?_
  | with_reducible refine r_dnew ?_
  | with_reducible refine r_brk ?_
  | with_reducible refine r_cont ?_
  | with_reducible refine r_fld ?_
  | ((with_reducible refine' r_ixL ?hh_ ?aa_ ?_); (case hh_ => walk_at "hl"); (case aa_ => first | rfl | assumption))
  | ((with_reducible refine' r_ixT ?hh_ ?aa_ ?_); (case hh_ => walk_at "hl"); (case aa_ => first | rfl | assumption))
  | ((with_reducible refine' r_setL ?hh_ ?aa_ ?_); (case hh_ => walk_at "hl"); (case aa_ => first | rfl | assumption))
  | ((with_reducible refine' r_len ?hh_ ?_); (case hh_ => walk_at "hl"))
  | ((with_reducible refine' r_lenT ?hh_ ?_); (case hh_ => walk_at "hl"))
  | with_reducible refine r_int1 ?_
  | with_reducible refine r_abs ?_
  | with_reducible refine r_max ?_
  | with_reducible refine r_min ?_
  | ((with_reducible refine' r_listOf ?hh_ ?_); (case hh_ => walk_at "hl"))
  | with_reducible refine r_isNo ?_
  | with_reducible refine r_notNo ?_
  | with_reducible refine r_bm ?_
  | with_reducible refine r_bm0 ?_
  | ((with_reducible refine' r_tyL ?hh_ ?_); (case hh_ => walk_at "hl"))
  | ((with_reducible refine' r_append ?hh_ ?zz_ ?_); (case hh_ => walk_at "hl"); (case zz_ => walk_at "sz"))
  | ((with_reducible refine' r_insert ?hh_ ?zz_ ?ii_ ?jj_ ?_); (case hh_ => walk_at "hl"); (case zz_ => walk_at "sz"); (case ii_ => omega); (case jj_ => omega)))
local macro_rules | `(tactic| walk_at "rs") => `(tactic| (repeat' (walk_at "rs1")))
/-! ### the text by places -/
def top (i : Nat) : Stmt := PySem.Challenge.pw_sandthreads_k52_first_unlike_lengths.main.body.getD i (.Pass ⟨0, 0, 0, 0⟩)
abbrev s_SandError___init__ : Stmt := (inClass (top 2) 0)
abbrev N_SandError___init__ : List Str := ["self", "value"]
abbrev P_SandError___init__ : List Str := ["self", "value"]
theorem sc_SandError___init__ : FnScope N_SandError___init__ P_SandError___init__ (defScope s_SandError___init__) := ⟨rfl, rfl, rfl, by decide +kernel, rfl, by decide +kernel, by decide +kernel⟩

abbrev s_greatest_divisor : Stmt := (top 7)
abbrev N_greatest_divisor : List Str := ["one", "other"]
abbrev P_greatest_divisor : List Str := ["one", "other"]
theorem sc_greatest_divisor : FnScope N_greatest_divisor P_greatest_divisor (defScope s_greatest_divisor) := ⟨rfl, rfl, rfl, by decide +kernel, rfl, by decide +kernel, by decide +kernel⟩

abbrev s_tail_number : Stmt := (top 8)
abbrev N_tail_number : List Str := ["tail", "more", "k"]
abbrev P_tail_number : List Str := ["tail", "more", "k"]
theorem sc_tail_number : FnScope N_tail_number P_tail_number (defScope s_tail_number) := ⟨rfl, rfl, rfl, by decide +kernel, rfl, by decide +kernel, by decide +kernel⟩

abbrev s_least_every : Stmt := (top 9)
abbrev N_least_every : List Str := ["tail", "more", "every", "rise", "steps", "k"]
abbrev P_least_every : List Str := ["tail", "more"]
theorem sc_least_every : FnScope N_least_every P_least_every (defScope s_least_every) := ⟨rfl, rfl, rfl, by decide +kernel, rfl, by decide +kernel, by decide +kernel⟩

abbrev s_fewest_numbers : Stmt := (top 10)
abbrev N_fewest_numbers : List Str := ["numbers", "every", "more", "count"]
abbrev P_fewest_numbers : List Str := ["numbers", "every", "more"]
theorem sc_fewest_numbers : FnScope N_fewest_numbers P_fewest_numbers (defScope s_fewest_numbers) := ⟨rfl, rfl, rfl, by decide +kernel, rfl, by decide +kernel, by decide +kernel⟩

abbrev s_Course___init__ : Stmt := (inClass (top 11) 0)
abbrev N_Course___init__ : List Str := ["self", "least", "numbers", "every", "more", "period", "rise"]
abbrev P_Course___init__ : List Str := ["self", "least", "numbers", "every", "more"]
theorem sc_Course___init__ : FnScope N_Course___init__ P_Course___init__ (defScope s_Course___init__) := ⟨rfl, rfl, rfl, by decide +kernel, rfl, by decide +kernel, by decide +kernel⟩

abbrev s_Course_least : Stmt := (inClass (top 11) 1)
abbrev N_Course_least : List Str := ["self"]
abbrev P_Course_least : List Str := ["self"]
theorem sc_Course_least : FnScope N_Course_least P_Course_least (defScope s_Course_least) := ⟨rfl, rfl, rfl, by decide +kernel, rfl, by decide +kernel, by decide +kernel⟩

abbrev s_Course_numbers : Stmt := (inClass (top 11) 2)
abbrev N_Course_numbers : List Str := ["self"]
abbrev P_Course_numbers : List Str := ["self"]
theorem sc_Course_numbers : FnScope N_Course_numbers P_Course_numbers (defScope s_Course_numbers) := ⟨rfl, rfl, rfl, by decide +kernel, rfl, by decide +kernel, by decide +kernel⟩

abbrev s_Course_every : Stmt := (inClass (top 11) 3)
abbrev N_Course_every : List Str := ["self"]
abbrev P_Course_every : List Str := ["self"]
theorem sc_Course_every : FnScope N_Course_every P_Course_every (defScope s_Course_every) := ⟨rfl, rfl, rfl, by decide +kernel, rfl, by decide +kernel, by decide +kernel⟩

abbrev s_Course_at : Stmt := (inClass (top 11) 5)
abbrev N_Course_at : List Str := ["self", "n", "k"]
abbrev P_Course_at : List Str := ["self", "n"]
theorem sc_Course_at : FnScope N_Course_at P_Course_at (defScope s_Course_at) := ⟨rfl, rfl, rfl, by decide +kernel, rfl, by decide +kernel, by decide +kernel⟩

abbrev s_Course_first_unlike : Stmt := (inClass (top 11) 11)
abbrev N_Course_first_unlike : List Str := ["self", "other", "every", "settled", "n"]
abbrev P_Course_first_unlike : List Str := ["self", "other"]
theorem sc_Course_first_unlike : FnScope N_Course_first_unlike P_Course_first_unlike (defScope s_Course_first_unlike) := ⟨rfl, rfl, rfl, by decide +kernel, rfl, by decide +kernel, by decide +kernel⟩

abbrev s_Course___eq__ : Stmt := (inClass (top 11) 12)
abbrev N_Course___eq__ : List Str := ["self", "other", "mine"]
abbrev P_Course___eq__ : List Str := ["self", "other"]
theorem sc_Course___eq__ : FnScope N_Course___eq__ P_Course___eq__ (defScope s_Course___eq__) := ⟨rfl, rfl, rfl, by decide +kernel, rfl, by decide +kernel, by decide +kernel⟩

abbrev s__law_well : Stmt := (top 13)
abbrev N__law_well : List Str := ["_law_cell", "_law_salt", "_law_prime", "_law_seed", "_law_number", "_law_k"]
abbrev P__law_well : List Str := ["_law_cell", "_law_salt"]
theorem sc__law_well : FnScope N__law_well P__law_well (defScope s__law_well) := ⟨rfl, rfl, rfl, by decide +kernel, rfl, by decide +kernel, by decide +kernel⟩

abbrev s__law_pick : Stmt := (top 14)
abbrev N__law_pick : List Str := ["_law_well_here", "_law_many", "_law_taken"]
abbrev P__law_pick : List Str := ["_law_well_here", "_law_many"]
theorem sc__law_pick : FnScope N__law_pick P__law_pick (defScope s__law_pick) := ⟨rfl, rfl, rfl, by decide +kernel, rfl, by decide +kernel, by decide +kernel⟩

abbrev s__law_same : Stmt := (top 15)
abbrev N__law_same : List Str := ["_law_found", "_law_due", "_law_k"]
abbrev P__law_same : List Str := ["_law_found", "_law_due"]
theorem sc__law_same : FnScope N__law_same P__law_same (defScope s__law_same) := ⟨rfl, rfl, rfl, by decide +kernel, rfl, by decide +kernel, by decide +kernel⟩

abbrev s__law_course : Stmt := (top 16)
abbrev N__law_course : List Str := ["_law_well_here", "_law_most", "_law_sizes", "_law_long", "_law_size", "_law_rise", "_law_start", "_law_step", "_law_some", "_law_row", "_law_k"]
abbrev P__law_course : List Str := ["_law_well_here", "_law_most"]
theorem sc__law_course : FnScope N__law_course P__law_course (defScope s__law_course) := ⟨rfl, rfl, rfl, by decide +kernel, rfl, by decide +kernel, by decide +kernel⟩

abbrev s__law_value : Stmt := (top 17)
abbrev N__law_value : List Str := ["_law_course_here", "_law_k", "_law_row", "_law_rounds"]
abbrev P__law_value : List Str := ["_law_course_here", "_law_k"]
theorem sc__law_value : FnScope N__law_value P__law_value (defScope s__law_value) := ⟨rfl, rfl, rfl, by decide +kernel, rfl, by decide +kernel, by decide +kernel⟩

abbrev s__law_partner : Stmt := (top 18)
abbrev N__law_partner : List Str := ["_law_well_here", "_law_course_here", "_law_way", "_law_start", "_law_row", "_law_step", "_law_rise", "_law_at", "_law_sign", "_law_count", "_law_more", "_law_k"]
abbrev P__law_partner : List Str := ["_law_well_here", "_law_course_here"]
theorem sc__law_partner : FnScope N__law_partner P__law_partner (defScope s__law_partner) := ⟨rfl, rfl, rfl, by decide +kernel, rfl, by decide +kernel, by decide +kernel⟩

abbrev s__law_unlike : Stmt := (top 19)
abbrev N__law_unlike : List Str := ["_law_one", "_law_two", "_law_k"]
abbrev P__law_unlike : List Str := ["_law_one", "_law_two"]
theorem sc__law_unlike : FnScope N__law_unlike P__law_unlike (defScope s__law_unlike) := ⟨rfl, rfl, rfl, by decide +kernel, rfl, by decide +kernel, by decide +kernel⟩

abbrev s_law : Stmt := (top 20)
abbrev N_law : List Str := ["_law_script", "_law_cell", "_law_well_here", "_law_one", "_law_two", "_law_due", "_law_first", "_law_second", "_law_third", "_law_told", "_law_k"]
abbrev P_law : List Str := ["_law_script"]
theorem sc_law : FnScope N_law P_law (defScope s_law) := ⟨rfl, rfl, rfl, by decide +kernel, rfl, by decide +kernel, by decide +kernel⟩

structure Ad where
  f_SandError___init__ : Addr
  d_SandError___init__ : FuncData
  f_greatest_divisor : Addr
  d_greatest_divisor : FuncData
  f_tail_number : Addr
  d_tail_number : FuncData
  f_least_every : Addr
  d_least_every : FuncData
  f_fewest_numbers : Addr
  d_fewest_numbers : FuncData
  f_Course___init__ : Addr
  d_Course___init__ : FuncData
  f_Course_least : Addr
  d_Course_least : FuncData
  f_Course_numbers : Addr
  d_Course_numbers : FuncData
  f_Course_every : Addr
  d_Course_every : FuncData
  f_Course_at : Addr
  d_Course_at : FuncData
  f_Course_first_unlike : Addr
  d_Course_first_unlike : FuncData
  f_Course___eq__ : Addr
  d_Course___eq__ : FuncData
  f__law_well : Addr
  d__law_well : FuncData
  f__law_pick : Addr
  d__law_pick : FuncData
  f__law_same : Addr
  d__law_same : FuncData
  f__law_course : Addr
  d__law_course : FuncData
  f__law_value : Addr
  d__law_value : FuncData
  f__law_partner : Addr
  d__law_partner : FuncData
  f__law_unlike : Addr
  d__law_unlike : FuncData
  f_law : Addr
  d_law : FuncData
  C_InvalidSize : Addr
  C_InvalidNumber : Addr
  C_NoLength : Addr
  C_Course : Addr
  C_InvalidPoint : Addr
  C_InvalidMirror : Addr
  C_InvalidTurn : Addr
  C_Taken : Addr
  C_NoMirror : Addr
  C_Board : Addr
  C_InvalidRow : Addr
  C_InvalidSquare : Addr
  C_Strip : Addr
  p_Course_least : Addr
  p_Course_numbers : Addr
  p_Course_every : Addr
structure Txt (K : PySem.W.Frag) (mg : Str → Option Value) (A : Ad) : Prop where
  F_SandError___init__ : Fun K "__init__" "SandError.__init__" s_SandError___init__ A.f_SandError___init__ A.d_SandError___init__
  k_SandError___init__ : PySem.W.keepIn K (.ref A.f_SandError___init__) = true
  b_SandError___init__ : Binds K A.d_SandError___init__ P_SandError___init__ []
  F_greatest_divisor : Fun K "greatest_divisor" "greatest_divisor" s_greatest_divisor A.f_greatest_divisor A.d_greatest_divisor
  k_greatest_divisor : PySem.W.keepIn K (.ref A.f_greatest_divisor) = true
  b_greatest_divisor : Binds K A.d_greatest_divisor P_greatest_divisor []
  g_greatest_divisor : mg "greatest_divisor" = some (.ref A.f_greatest_divisor)
  F_tail_number : Fun K "tail_number" "tail_number" s_tail_number A.f_tail_number A.d_tail_number
  k_tail_number : PySem.W.keepIn K (.ref A.f_tail_number) = true
  b_tail_number : Binds K A.d_tail_number P_tail_number []
  g_tail_number : mg "tail_number" = some (.ref A.f_tail_number)
  F_least_every : Fun K "least_every" "least_every" s_least_every A.f_least_every A.d_least_every
  k_least_every : PySem.W.keepIn K (.ref A.f_least_every) = true
  b_least_every : Binds K A.d_least_every P_least_every []
  g_least_every : mg "least_every" = some (.ref A.f_least_every)
  F_fewest_numbers : Fun K "fewest_numbers" "fewest_numbers" s_fewest_numbers A.f_fewest_numbers A.d_fewest_numbers
  k_fewest_numbers : PySem.W.keepIn K (.ref A.f_fewest_numbers) = true
  b_fewest_numbers : Binds K A.d_fewest_numbers P_fewest_numbers []
  g_fewest_numbers : mg "fewest_numbers" = some (.ref A.f_fewest_numbers)
  F_Course___init__ : Fun K "__init__" "Course.__init__" s_Course___init__ A.f_Course___init__ A.d_Course___init__
  k_Course___init__ : PySem.W.keepIn K (.ref A.f_Course___init__) = true
  b_Course___init__ : Binds K A.d_Course___init__ P_Course___init__ []
  F_Course_least : Fun K "least" "Course.least" s_Course_least A.f_Course_least A.d_Course_least
  k_Course_least : PySem.W.keepIn K (.ref A.f_Course_least) = true
  b_Course_least : Binds K A.d_Course_least P_Course_least []
  F_Course_numbers : Fun K "numbers" "Course.numbers" s_Course_numbers A.f_Course_numbers A.d_Course_numbers
  k_Course_numbers : PySem.W.keepIn K (.ref A.f_Course_numbers) = true
  b_Course_numbers : Binds K A.d_Course_numbers P_Course_numbers []
  F_Course_every : Fun K "every" "Course.every" s_Course_every A.f_Course_every A.d_Course_every
  k_Course_every : PySem.W.keepIn K (.ref A.f_Course_every) = true
  b_Course_every : Binds K A.d_Course_every P_Course_every []
  F_Course_at : Fun K "at" "Course.at" s_Course_at A.f_Course_at A.d_Course_at
  k_Course_at : PySem.W.keepIn K (.ref A.f_Course_at) = true
  b_Course_at : Binds K A.d_Course_at P_Course_at []
  F_Course_first_unlike : Fun K "first_unlike" "Course.first_unlike" s_Course_first_unlike A.f_Course_first_unlike A.d_Course_first_unlike
  k_Course_first_unlike : PySem.W.keepIn K (.ref A.f_Course_first_unlike) = true
  b_Course_first_unlike : Binds K A.d_Course_first_unlike P_Course_first_unlike []
  F_Course___eq__ : Fun K "__eq__" "Course.__eq__" s_Course___eq__ A.f_Course___eq__ A.d_Course___eq__
  k_Course___eq__ : PySem.W.keepIn K (.ref A.f_Course___eq__) = true
  b_Course___eq__ : Binds K A.d_Course___eq__ P_Course___eq__ []
  F__law_well : Fun K "_law_well" "_law_well" s__law_well A.f__law_well A.d__law_well
  k__law_well : PySem.W.keepIn K (.ref A.f__law_well) = true
  b__law_well : Binds K A.d__law_well P__law_well []
  g__law_well : mg "_law_well" = some (.ref A.f__law_well)
  F__law_pick : Fun K "_law_pick" "_law_pick" s__law_pick A.f__law_pick A.d__law_pick
  k__law_pick : PySem.W.keepIn K (.ref A.f__law_pick) = true
  b__law_pick : Binds K A.d__law_pick P__law_pick []
  g__law_pick : mg "_law_pick" = some (.ref A.f__law_pick)
  F__law_same : Fun K "_law_same" "_law_same" s__law_same A.f__law_same A.d__law_same
  k__law_same : PySem.W.keepIn K (.ref A.f__law_same) = true
  b__law_same : Binds K A.d__law_same P__law_same []
  g__law_same : mg "_law_same" = some (.ref A.f__law_same)
  F__law_course : Fun K "_law_course" "_law_course" s__law_course A.f__law_course A.d__law_course
  k__law_course : PySem.W.keepIn K (.ref A.f__law_course) = true
  b__law_course : Binds K A.d__law_course P__law_course []
  g__law_course : mg "_law_course" = some (.ref A.f__law_course)
  F__law_value : Fun K "_law_value" "_law_value" s__law_value A.f__law_value A.d__law_value
  k__law_value : PySem.W.keepIn K (.ref A.f__law_value) = true
  b__law_value : Binds K A.d__law_value P__law_value []
  g__law_value : mg "_law_value" = some (.ref A.f__law_value)
  F__law_partner : Fun K "_law_partner" "_law_partner" s__law_partner A.f__law_partner A.d__law_partner
  k__law_partner : PySem.W.keepIn K (.ref A.f__law_partner) = true
  b__law_partner : Binds K A.d__law_partner P__law_partner []
  g__law_partner : mg "_law_partner" = some (.ref A.f__law_partner)
  F__law_unlike : Fun K "_law_unlike" "_law_unlike" s__law_unlike A.f__law_unlike A.d__law_unlike
  k__law_unlike : PySem.W.keepIn K (.ref A.f__law_unlike) = true
  b__law_unlike : Binds K A.d__law_unlike P__law_unlike []
  g__law_unlike : mg "_law_unlike" = some (.ref A.f__law_unlike)
  F_law : Fun K "law" "law" s_law A.f_law A.d_law
  k_law : PySem.W.keepIn K (.ref A.f_law) = true
  b_law : Binds K A.d_law P_law []
  g_law : mg "law" = some (.ref A.f_law)
  g_InvalidSize : mg "InvalidSize" = some (.ref A.C_InvalidSize)
  X_InvalidSize : OexC K A.C_InvalidSize
  i_InvalidSize : PySem.W.findIn K (.ref A.C_InvalidSize) "__init__" = some (some (.ref A.f_SandError___init__))
  xf_InvalidSize : XfC K A.C_InvalidSize
  te_InvalidSize : PySem.W.exmOne K (.ref A.C_InvalidSize) (.ref A.C_InvalidSize) = some true
  no_InvalidSize : PySem.W.findIn K (.ref A.C_InvalidSize) "value" = some none
  g_InvalidNumber : mg "InvalidNumber" = some (.ref A.C_InvalidNumber)
  X_InvalidNumber : OexC K A.C_InvalidNumber
  i_InvalidNumber : PySem.W.findIn K (.ref A.C_InvalidNumber) "__init__" = some (some (.ref A.f_SandError___init__))
  xf_InvalidNumber : XfC K A.C_InvalidNumber
  te_InvalidNumber : PySem.W.exmOne K (.ref A.C_InvalidNumber) (.ref A.C_InvalidNumber) = some true
  no_InvalidNumber : PySem.W.findIn K (.ref A.C_InvalidNumber) "value" = some none
  g_NoLength : mg "NoLength" = some (.ref A.C_NoLength)
  X_NoLength : OexC K A.C_NoLength
  i_NoLength : PySem.W.findIn K (.ref A.C_NoLength) "__init__" = some (some (.ref A.f_SandError___init__))
  xf_NoLength : XfC K A.C_NoLength
  te_NoLength : PySem.W.exmOne K (.ref A.C_NoLength) (.ref A.C_NoLength) = some true
  no_NoLength : PySem.W.findIn K (.ref A.C_NoLength) "value" = some none
  kw_Course_first_unlike_other : ∀ (s : Shared) (us ws : List Value), K.In s.heap → us.length = 1 → ws.length = 1 → BindsTo s A.d_Course_first_unlike ⟨us, (["other"] : List Str).zip ws⟩ (P_Course_first_unlike.zip (us ++ [0].filterMap fun i => ws[i]?))
  ti_init : PySem.W.typeIn K (.ref A.f_SandError___init__) = some (.type "function")
  g_Course : mg "Course" = some (.ref A.C_Course)
  M_Course : Mk K A.C_Course A.f_Course___init__
  cl_Course : Cls K A.C_Course
  ne_Course : PySem.W.findIn K (.ref A.C_Course) "__ne__" = some (some (.builtin "object.__ne__"))
  zc_Course : PySem.W.isClsIn K A.C_Course = true
  tc_Course : PySem.W.typeIn K (.ref A.C_Course) = some (.type "type")
  i1_Course : PySem.W.findIn K (.ref A.C_Course) "__class__" = some (some (.builtin "object.__class__"))
  i2_Course : PySem.W.specialIn K (.builtin "object.__class__") "__get__" = some (some (.builtin "getset_descriptor.__get__"))
  i3_Course : PySem.W.takesIn K (.builtin "object.__class__") = some true
  i4_Course : PySem.W.mroIn K A.C_Course (.type "object") = some true
  na_Course_start : NoAttr K A.C_Course "start"
  na_Course_told : NoAttr K A.C_Course "told"
  na_Course_period : NoAttr K A.C_Course "period"
  na_Course_rise : NoAttr K A.C_Course "rise"
  m_Course_at : Meth K A.C_Course "at" A.f_Course_at
  m_Course_first_unlike : Meth K A.C_Course "first_unlike" A.f_Course_first_unlike
  m_Course___eq__ : Meth K A.C_Course "__eq__" A.f_Course___eq__
  pr_Course_least : PropOf K A.C_Course "least" A.p_Course_least A.f_Course_least
  pr_Course_numbers : PropOf K A.C_Course "numbers" A.p_Course_numbers A.f_Course_numbers
  pr_Course_every : PropOf K A.C_Course "every" A.p_Course_every A.f_Course_every
  n_len : mg "len" = none
  n_int : mg "int" = none
  n_range : mg "range" = none
  n_list : mg "list" = none
  n_isinstance : mg "isinstance" = none
  n_bool : mg "bool" = none
  n_str : mg "str" = none
  n_tuple : mg "tuple" = none
  n_all : mg "all" = none
  n_max : mg "max" = none
  n_min : mg "min" = none
/-! ### the hand: draws -/
def HandAt (H : Hp) (p c : Addr) (n : Nat) : Prop := ∃ (cs : List Int) (k : Nat) (t : Int), H p = some (.lst [.ref c, .int k, .int t]) ∧ H c = some (.lst (cs.map V.int)) ∧ c ≠ p ∧ (∀ x ∈ cs, 0 ≤ x) ∧ cs.length ≤ 63 ∧ k ≤ n
def Keep2 (p c : Addr) (H H' : Hp) : Prop := ∀ b o, H b = some o → b ≠ p → b ≠ c → H' b = some o
theorem HandAt.mono {H : Hp} {p c : Addr} {n m : Nat} (h : HandAt H p c n) (e : n ≤ m) : HandAt H p c m := by
  obtain ⟨cs, k, t, a, b, d, f, g, i⟩ := h
  exact ⟨cs, k, t, a, b, d, f, g, Nat.le_trans i e⟩
def spTake : Sp := fun vs H Q _ => ∃ (p c : Addr) (n : Nat) (lim : Int), vs = [.ref p, .int lim] ∧ HandAt H p c n ∧ n < 1000000000 ∧ 0 < lim ∧ lim < 1073741824 ∧
  ∀ (r : Int) (H' : Hp), 0 ≤ r → r < lim → HandAt H' p c (n + 1) → Keep2 p c H H' → Q (.int r) H'
section
variable {P : Program} {w : World} {K : PySem.W.Frag} {mg : Str → Option Value} {base : Heap} {A : Ad}
theorem mod_rng {a m : Int} (h : 0 < m) : 0 ≤ a % m ∧ a % m < m := ⟨Int.emod_nonneg a (by omega), Int.emod_lt_of_pos a h⟩
theorem at_mod {cs : List Int} {k : Int} (h : 0 < ((cs.map V.int).length : Int)) : ∃ (j : Nat) (z : Int), cs[j]? = some z ∧ j < cs.length ∧ ixN (cs.map V.int).length (k % ((cs.map V.int).length : Nat)) = some j ∧ atI (cs.map V.int) (k % ((cs.map V.int).length : Nat)) = some (V.int z) := by
  have r := mod_rng (a := k) h
  generalize hm : k % ((cs.map V.int).length : Nat) = m at r
  obtain ⟨r1, r2⟩ := r
  have hl : (cs.map V.int).length = cs.length := List.length_map ..
  have hj : m.toNat < cs.length := by omega
  have e : ixN (cs.map V.int).length m = some m.toNat := by
    unfold ixN
    rw [if_pos r1, if_pos r2]
  refine ⟨m.toNat, cs[m.toNat], List.getElem?_eq_getElem hj, hj, e, ?_⟩
  unfold atI
  rw [e]
  simp [hj]
theorem hand_set {cs : List Int} {j : Nat} {z : Int} (h : ∀ x ∈ cs, (0 : Int) ≤ x) (hz : 0 ≤ z) : ∀ x ∈ cs.set j z, (0 : Int) ≤ x := by
  intro x hx
  rcases List.mem_or_eq_of_mem_set hx with hx | hx
  · exact h x hx
  · omega
end
/-! ### the token of a hand -/
structure TokAt (H : Hp) (p c : Addr) (n : Nat) : Prop where
  at_ : HandAt H p c n
theorem TokAt.tokp {H : Hp} {p c : Addr} {n : Nat} (h : TokAt H p c n) : ∃ xs, H p = some (.lst xs) := by
  obtain ⟨_, _, _, e, _⟩ := h.at_
  exact ⟨_, e⟩
theorem TokAt.tokc {H : Hp} {p c : Addr} {n : Nat} (h : TokAt H p c n) : ∃ xs, H c = some (.lst xs) := by
  obtain ⟨_, _, _, _, e, _⟩ := h.at_
  exact ⟨_, e⟩
theorem TokAt.keep {H H' : Hp} {p c : Addr} {n : Nat} (h : TokAt H p c n) (hp : ∀ o, H p = some o → H' p = some o) (hc : ∀ o, H c = some o → H' c = some o) : TokAt H' p c n := by
  obtain ⟨cs, k, t, a, b, d⟩ := h.at_
  exact ⟨cs, k, t, hp _ a, hc _ b, d⟩
theorem TokAt.mono {H : Hp} {p c : Addr} {n m : Nat} (h : TokAt H p c n) (e : n ≤ m) : TokAt H p c m := ⟨h.at_.mono e⟩
/-! ### errors -/
def spErr (K : PySem.W.Frag) : Sp := fun vs H Q _ => ∃ (a C : Addr) (v : V), vs = [.ref a, v] ∧ OexC K C ∧ PySem.W.findIn K (.ref C) "value" = some none ∧ H a = some (exo a C none) ∧
  ∀ dx, H dx = none → dx ≠ a → Q .non (upd (upd H dx (exd dx [(("value" : Str), v)])) a (exo a C (some dx)))
/-- what is wanted where an error with this value is raised -/
def WishV (C : Addr) (v : V) (E : XK) (H : Hp) : Prop := ∀ (d : Addr) (H' : Hp), Same H H' → H' d = some (.xd [(("value" : Str), v)]) → E (.ref C) (some d) H'
def WishT (C : Addr) (x y : Int) (E : XK) (H : Hp) : Prop := ∀ (d q : Addr) (H' : Hp), Same H H' → H' d = some (.xd [(("value" : Str), .ref q)]) → H' q = some (.tup [.int x, .int y]) → E (.ref C) (some d) H'
theorem raise_val {K : PySem.W.Frag} {C : Addr} {v : V} {H1 : Hp} {E : XK} (X : OexC K C) (no : PySem.W.findIn K (.ref C) "value" = some none) (h : WishV C v E H1) :
    ∀ a, H1 a = none → spErr K (.ref a :: ([v] ++ [])) (upd H1 a (exo a C none)) (fun v' H2 => v' = .non ∧ ∃ (d : Addr) (fs : List (Str × V)), H2 a = some (exo a C (some d)) ∧ H2 d = some (exd d fs) ∧ H1 d = none ∧ E (.ref C) (some d) (upd (del H2 a) d (.xd fs))) (fun _ _ _ => False) := by
  intro a ha
  refine ⟨a, C, v, rfl, X, no, upd_same, fun dx hdx hne => ⟨rfl, dx, [(("value" : Str), v)], upd_same, ?_, ?_, ?_⟩⟩
  · rw [upd_ne hne, upd_same]
  · rw [upd_ne hne] at hdx
    exact hdx
  · rw [upd_ne hne] at hdx
    refine h dx _ (fun b o hb => ?_) upd_same
    have h1 := ne_of_none hb ha
    have h2 := ne_of_none hb hdx
    rw [upd_ne h2, del_ne h1, upd_ne h1, upd_ne h2, upd_ne h1]
    exact hb
section
variable {P : Program} {w : World} {K : PySem.W.Frag} {mg : Str → Option Value} {base : Heap} {A : Ad}
theorem ok_SandError___init__ (T : Txt K mg A) : FnOk P w K mg base CX0 1 A.f_SandError___init__ A.d_SandError___init__ P_SandError___init__ (spErr K) := by
  refine T.F_SandError___init__.ok sc_SandError___init__ (fun vs H Q E h => ?_) (fun cdv A' outer s H vs Q E hr h => ?_)
  · obtain ⟨a, C, v, rfl, _⟩ := h
    rfl
  · obtain ⟨a, C, v, rfl, X, no, ha, kk⟩ := h
    refine ⟨_, (pss_one (ps_ost (pv 0) (pv 1))), ?_⟩
    exact ⟨_, rfl, _, rfl, a, C, rfl, X, no, .inl ⟨ha, fun dx h1 h2 => kk dx h1 h2⟩⟩
theorem okd_SandError___init__ (T : Txt K mg A) : FnOk P w K mg base CX0 1 A.f_SandError___init__ A.d_SandError___init__ P_SandError___init__ (spErr K) := ok_SandError___init__ T
end
/-! ### data: values with what they hold -/
inductive D where
  | non | bl (b : Bool) | int (i : Int) | str (s : Str) | cls (C : Addr) | ty (n : String)
  | lst (ds : List D) | tup (ds : List D)
  /-- a list, a tuple that the frame did not make (the script; the module's) -/
  | fls (ds : List D) | ftp (ds : List D)
  | dic (es : List (List Key × D)) | dik (es : List (Key × D))
  | obj (C : Addr) (fs : List (Str × D))
mutual
def toPy : D → PyData
  | .non => .none
  | .bl b => .bool b
  | .int i => .int i
  | .str s => .str s
  | .lst ds => .list (toPys ds)
  | .tup ds => .tuple (toPys ds)
  | .fls ds => .list (toPys ds)
  | .ftp ds => .tuple (toPys ds)
  | _ => .dict []
def toPys : List D → List PyData
  | [] => []
  | d :: ds => toPy d :: toPys ds
end
mutual
/-- in the heap's part that never changes, x is d -/
inductive Rep (K : PySem.W.Frag) (I : Hp) : V → D → Prop
  | non : Rep K I .non .non
  | bl (b : Bool) : Rep K I (.bl b) (.bl b)
  | int (i : Int) : Rep K I (.int i) (.int i)
  | str (s : Str) : Rep K I (.str s) (.str s)
  | cls (C : Addr) : Rep K I (.ref C) (.cls C)
  | ty (n : String) : Rep K I (.ty n) (.ty n)
  | lst {a : Addr} {xs : List V} {ds : List D} : I a = some (.lst xs) → Reps K I xs ds → Rep K I (.ref a) (.lst ds)
  | fls {a : Addr} {xs : List V} {ds : List D} : SqL K I a xs → Reps K I xs ds → Rep K I (.ref a) (.fls ds)
  | tup {a : Addr} {xs : List V} {ds : List D} : I a = some (.tup xs) → Reps K I xs ds → Rep K I (.ref a) (.tup ds)
  | ftp {a : Addr} {xs : List V} {ds : List D} : SqT K I a xs → Reps K I xs ds → Rep K I (.ref a) (.ftp ds)
  | dic {a : Addr} {kvs : List (List Key × V)} {es : List (List Key × D)} : I a = some (.dT kvs) → kvs.map (·.1) = es.map (·.1) → Reps K I (kvs.map (·.2)) (es.map (·.2)) → Rep K I (.ref a) (.dic es)
  | dik {a : Addr} {kvs : List (Key × V)} {es : List (Key × D)} : I a = some (.dK kvs) → kvs.map (·.1) = es.map (·.1) → Reps K I (kvs.map (·.2)) (es.map (·.2)) → Rep K I (.ref a) (.dik es)
  | obj {a C dx : Addr} {fs : List (Str × V)} {es : List (Str × D)} : I a = some (.ins C dx fs) → fs.map (·.1) = es.map (·.1) → Reps K I (fs.map (·.2)) (es.map (·.2)) → Rep K I (.ref a) (.obj C es)
inductive Reps (K : PySem.W.Frag) (I : Hp) : List V → List D → Prop
  | nil : Reps K I [] []
  | cons {x : V} {xs : List V} {d : D} {ds : List D} : Rep K I x d → Reps K I xs ds → Reps K I (x :: xs) (d :: ds)
end
/-- I grows to I' -/
def Le (I I' : Hp) : Prop := ∀ a o, I a = some o → I' a = some o
theorem Le.refl {I : Hp} : Le I I := fun _ _ e => e
theorem Le.trans {I J L : Hp} (a : Le I J) (b : Le J L) : Le I L := fun x o e => b x o (a x o e)
theorem Le.new {I : Hp} {a : Addr} {o : HO} (h : I a = none) : Le I (upd I a o) := fun b u e => by
  rw [upd_ne (ne_of_none e h)]
  exact e
theorem Le.rd {I I' : Hp} {a : Addr} {u : HO} (e : Le I I') (h : Rd I a u) : Rd I' a u := by
  rcases h with h | ⟨o, h⟩
  · exact .inl (e _ _ h)
  · exact .inr ⟨o, e _ _ h⟩
theorem Le.sqL {K : PySem.W.Frag} {I I' : Hp} {a : Addr} {xs : List V} (e : Le I I') (h : SqL K I a xs) : SqL K I' a xs := by
  rcases h with h | h
  · exact .inl (e.rd h)
  · exact .inr h
theorem Le.sqT {K : PySem.W.Frag} {I I' : Hp} {a : Addr} {xs : List V} (e : Le I I') (h : SqT K I a xs) : SqT K I' a xs := by
  rcases h with h | h
  · exact .inl (e.rd h)
  · exact .inr h
mutual
theorem Rep.mono {K : PySem.W.Frag} {I I' : Hp} (e : Le I I') : ∀ {x : V} {d : D}, Rep K I x d → Rep K I' x d
  | _, _, .non => .non
  | _, _, .bl b => .bl b
  | _, _, .int i => .int i
  | _, _, .str s => .str s
  | _, _, .cls C => .cls C
  | _, _, .ty n => .ty n
  | _, _, .lst h r => .lst (e _ _ h) (Reps.mono e r)
  | _, _, .fls h r => .fls (e.sqL h) (Reps.mono e r)
  | _, _, .tup h r => .tup (e _ _ h) (Reps.mono e r)
  | _, _, .ftp h r => .ftp (e.sqT h) (Reps.mono e r)
  | _, _, .dic h k r => .dic (e _ _ h) k (Reps.mono e r)
  | _, _, .dik h k r => .dik (e _ _ h) k (Reps.mono e r)
  | _, _, .obj h k r => .obj (e _ _ h) k (Reps.mono e r)
theorem Reps.mono {K : PySem.W.Frag} {I I' : Hp} (e : Le I I') : ∀ {xs : List V} {ds : List D}, Reps K I xs ds → Reps K I' xs ds
  | _, _, .nil => .nil
  | _, _, .cons h r => .cons (Rep.mono e h) (Reps.mono e r)
end
theorem Reps.len {K : PySem.W.Frag} {I : Hp} : ∀ {xs : List V} {ds : List D}, Reps K I xs ds → xs.length = ds.length
  | _, _, .nil => rfl
  | _, _, .cons _ r => by rw [List.length_cons, List.length_cons, Reps.len r]
theorem Reps.get {K : PySem.W.Frag} {I : Hp} : ∀ {xs : List V} {ds : List D} {i : Nat} {d : D}, Reps K I xs ds → ds[i]? = some d → ∃ x, xs[i]? = some x ∧ Rep K I x d
  | _, _, i, d, .nil, e => by simp at e
  | _, _, 0, d, .cons h _, e => by
    simp at e
    subst e
    exact ⟨_, rfl, h⟩
  | _, _, i + 1, d, .cons _ r, e => by
    obtain ⟨x, h1, h2⟩ := Reps.get (i := i) (d := d) r (by simpa using e)
    exact ⟨x, by simpa using h1, h2⟩
theorem Reps.get' {K : PySem.W.Frag} {I : Hp} : ∀ {xs : List V} {ds : List D} {i : Nat} {x : V}, Reps K I xs ds → xs[i]? = some x → ∃ d, ds[i]? = some d ∧ Rep K I x d
  | _, _, i, d, .nil, e => by simp at e
  | _, _, 0, d, .cons h _, e => by
    simp at e
    subst e
    exact ⟨_, rfl, h⟩
  | _, _, i + 1, d, .cons _ r, e => by
    obtain ⟨x, h1, h2⟩ := Reps.get' (i := i) (x := d) r (by simpa using e)
    exact ⟨x, by simpa using h1, h2⟩
theorem Reps.app {K : PySem.W.Frag} {I : Hp} : ∀ {xs ys : List V} {ds es : List D}, Reps K I xs ds → Reps K I ys es → Reps K I (xs ++ ys) (ds ++ es)
  | _, _, _, _, .nil, h => h
  | _, _, _, _, .cons h r, s => .cons h (Reps.app r s)
theorem Reps.take {K : PySem.W.Frag} {I : Hp} : ∀ (n : Nat) {xs : List V} {ds : List D}, Reps K I xs ds → Reps K I (xs.take n) (ds.take n)
  | 0, _, _, _ => by rw [List.take_zero, List.take_zero]; exact .nil
  | _ + 1, _, _, .nil => .nil
  | n + 1, _, _, .cons h r => .cons h (Reps.take n r)
theorem Reps.drop {K : PySem.W.Frag} {I : Hp} : ∀ (n : Nat) {xs : List V} {ds : List D}, Reps K I xs ds → Reps K I (xs.drop n) (ds.drop n)
  | 0, _, _, h => h
  | _ + 1, _, _, .nil => .nil
  | n + 1, _, _, .cons _ r => Reps.drop n r
theorem Reps.set {K : PySem.W.Frag} {I : Hp} {x : V} {d : D} (h : Rep K I x d) : ∀ (n : Nat) {xs : List V} {ds : List D}, Reps K I xs ds → Reps K I (xs.set n x) (ds.set n d)
  | _, _, _, .nil => .nil
  | 0, _, _, .cons _ r => .cons h r
  | n + 1, _, _, .cons q r => .cons q (Reps.set h n r)
theorem Reps.rev {K : PySem.W.Frag} {I : Hp} : ∀ {xs : List V} {ds : List D}, Reps K I xs ds → Reps K I xs.reverse ds.reverse
  | _, _, .nil => .nil
  | _, _, .cons h r => by
    rw [List.reverse_cons, List.reverse_cons]
    exact (Reps.rev r).app (.cons h .nil)
mutual
theorem Rep.dp {K : PySem.W.Frag} {I : Hp} {n : Nat} : ∀ {x : V} {d : D}, Rep K I x d → okD n (toPy d) = true → Dp K I x (toPy d)
  | _, _, .non, _ => .non
  | _, _, .bl b, _ => .bl b
  | _, _, .int i, _ => .int i
  | _, _, .str s, _ => .str s
  | _, _, .cls _, h => by simp [toPy, okD] at h
  | _, _, .ty _, h => by simp [toPy, okD] at h
  | _, _, .lst h r, k => by
    cases n with
    | zero => simp [toPy, okD] at k
    | succ n =>
      rw [toPy, okD, Bool.and_eq_true] at k
      exact .lst (SqL.of h) (Reps.dp r k.2)
  | _, _, .fls h r, k => by
    cases n with
    | zero => simp [toPy, okD] at k
    | succ n =>
      rw [toPy, okD, Bool.and_eq_true] at k
      exact .lst h (Reps.dp r k.2)
  | _, _, .tup h r, k => by
    cases n with
    | zero => simp [toPy, okD] at k
    | succ n =>
      rw [toPy, okD, Bool.and_eq_true] at k
      exact .tup (SqT.of h) (Reps.dp r k.2)
  | _, _, .ftp h r, k => by
    cases n with
    | zero => simp [toPy, okD] at k
    | succ n =>
      rw [toPy, okD, Bool.and_eq_true] at k
      exact .tup h (Reps.dp r k.2)
  | _, _, .dic _ _ _, h => by simp [toPy, okD] at h
  | _, _, .dik _ _ _, h => by simp [toPy, okD] at h
  | _, _, .obj _ _ _, h => by simp [toPy, okD] at h
theorem Reps.dp {K : PySem.W.Frag} {I : Hp} {n : Nat} : ∀ {xs : List V} {ds : List D}, Reps K I xs ds → okDs n (toPys ds) = true → DpAll K I xs (toPys ds)
  | _, _, .nil, _ => .nil
  | _, _, .cons h r, k => by
    rw [toPys, okDs, Bool.and_eq_true] at k
    exact .cons (Rep.dp h k.1) (Reps.dp r k.2)
end
/-! ### what a frame's slots hold -/
inductive Ent where
  /-- a thing that never changes -/
  | imm (d : D)
  /-- a list or dict of this frame's alone, at a -/
  | own (a : Addr) (d : D)
  /-- the law's hand: what it holds is not told; drawn from at most n times -/
  | hand (p c : Addr) (n : Nat)
  /-- a list of things that are told elsewhere -/
  | raw (a : Addr) (xs : List V)
abbrev Ent.adr : Ent → List Addr
  | .imm _ => []
  | .own a _ => [a]
  | .hand p c _ => [p, c]
  | .raw a _ => [a]
abbrev En := List (Option Ent)
def adr (e : En) : List Addr := e.flatMap fun o => match o with
  | some x => x.adr
  | none => []
theorem mem_adr {e : En} {a : Addr} : a ∈ adr e ↔ ∃ (i : Nat) (x : Ent), e[i]? = some (some x) ∧ a ∈ x.adr := by
  unfold adr
  rw [List.mem_flatMap]
  constructor
  · rintro ⟨o, ho, ha⟩
    cases o with
    | none => simp at ha
    | some x =>
      obtain ⟨i, hi, e1⟩ := List.mem_iff_getElem.mp ho
      exact ⟨i, x, by rw [List.getElem?_eq_getElem hi, e1], ha⟩
  · rintro ⟨i, x, e1, ha⟩
    exact ⟨some x, List.mem_of_getElem? e1, ha⟩
def OwnR (K : PySem.W.Frag) (I H : Hp) (a : Addr) : D → Prop
  | .lst ds => ∃ xs, H a = some (.lst xs) ∧ Reps K I xs ds
  | .dic es => ∃ kvs, H a = some (.dT kvs) ∧ kvs.map (·.1) = es.map (·.1) ∧ Reps K I (kvs.map (·.2)) (es.map (·.2))
  | .dik es => ∃ kvs, H a = some (.dK kvs) ∧ kvs.map (·.1) = es.map (·.1) ∧ Reps K I (kvs.map (·.2)) (es.map (·.2))
  | .obj C es => ∃ dx fs, H a = some (.ins C dx fs) ∧ fs.map (·.1) = es.map (·.1) ∧ Reps K I (fs.map (·.2)) (es.map (·.2))
  | _ => False
def EntR (K : PySem.W.Frag) (I H : Hp) (x : V) : Ent → Prop
  | .imm d => Rep K I x d
  | .own a d => x = .ref a ∧ I a = none ∧ OwnR K I H a d
  | .hand p c n => x = .ref p ∧ I p = none ∧ I c = none ∧ TokAt H p c n
  | .raw a xs => x = .ref a ∧ I a = none ∧ H a = some (.lst xs)
/-- I is part of H -/
def Sub (I H : Hp) : Prop := ∀ a o, I a = some o → H a = some o
theorem OwnR.has {K : PySem.W.Frag} {I H : Hp} {a : Addr} {d : D} (h : OwnR K I H a d) : ∃ o, H a = some o ∧ ∀ xs, o ≠ .tup xs := by
  cases d with
  | lst ds => obtain ⟨xs, e, _⟩ := h; exact ⟨_, e, fun _ z => nomatch z⟩
  | dic es => obtain ⟨xs, e, _⟩ := h; exact ⟨_, e, fun _ z => nomatch z⟩
  | dik es => obtain ⟨xs, e, _⟩ := h; exact ⟨_, e, fun _ z => nomatch z⟩
  | obj C es => obtain ⟨dx, xs, e, _⟩ := h; exact ⟨_, e, fun _ z => nomatch z⟩
  | _ => exact False.elim h
theorem OwnR.mono {K : PySem.W.Frag} {I H I' H' : Hp} {a : Addr} {d : D} (h : OwnR K I H a d) (e : Le I I') (k : ∀ o, H a = some o → H' a = some o) : OwnR K I' H' a d := by
  cases d with
  | lst ds => obtain ⟨xs, q, r⟩ := h; exact ⟨xs, k _ q, r.mono e⟩
  | dic es => obtain ⟨xs, q, m, r⟩ := h; exact ⟨xs, k _ q, m, r.mono e⟩
  | dik es => obtain ⟨xs, q, m, r⟩ := h; exact ⟨xs, k _ q, m, r.mono e⟩
  | obj C es => obtain ⟨dx, xs, q, m, r⟩ := h; exact ⟨dx, xs, k _ q, m, r.mono e⟩
  | _ => exact False.elim h
theorem EntR.has {K : PySem.W.Frag} {I H : Hp} {x : V} {t : Ent} (h : EntR K I H x t) {a : Addr} (ha : a ∈ t.adr) : (∃ o, H a = some o ∧ ∀ xs, o ≠ .tup xs) ∧ I a = none := by
  cases t with
  | imm d => simp at ha
  | own b d =>
    obtain ⟨_, h1, h2⟩ := h
    simp at ha
    subst ha
    exact ⟨h2.has, h1⟩
  | raw b xs =>
    obtain ⟨_, h1, h2⟩ := h
    simp at ha
    subst ha
    exact ⟨⟨_, h2, fun _ z => nomatch z⟩, h1⟩
  | hand p c n =>
    obtain ⟨_, h1, h2, h3⟩ := h
    simp at ha
    rcases ha with rfl | rfl
    · obtain ⟨_, e⟩ := h3.tokp; exact ⟨⟨_, e, fun _ z => nomatch z⟩, h1⟩
    · obtain ⟨_, e⟩ := h3.tokc; exact ⟨⟨_, e, fun _ z => nomatch z⟩, h2⟩
theorem EntR.mono {K : PySem.W.Frag} {I H I' H' : Hp} {x : V} {t : Ent} (h : EntR K I H x t) (e : Le I I') (k : ∀ a ∈ t.adr, I' a = none ∧ ∀ o, H a = some o → H' a = some o) : EntR K I' H' x t := by
  cases t with
  | imm d => exact Rep.mono e h
  | own b d =>
    obtain ⟨h0, h1, h2⟩ := h
    exact ⟨h0, (k b (by simp)).1, h2.mono e (k b (by simp)).2⟩
  | raw b xs =>
    obtain ⟨h0, h1, h2⟩ := h
    exact ⟨h0, (k b (by simp)).1, (k b (by simp)).2 _ h2⟩
  | hand p c n =>
    obtain ⟨h0, h1, h2, h3⟩ := h
    exact ⟨h0, (k p (by simp)).1, (k c (by simp)).1, h3.keep (k p (by simp)).2 (k c (by simp)).2⟩
structure EnvR (K : PySem.W.Frag) (I H : Hp) (σ : L2.St) (e : En) : Prop where
  len : e.length = σ.length
  at_ : ∀ (i : Nat) (t : Ent), e[i]? = some (some t) → ∃ x, σ[i]? = some (some x) ∧ EntR K I H x t
  sep : ∀ (i j : Nat) (t u : Ent) (a : Addr), e[i]? = some (some t) → e[j]? = some (some u) → a ∈ t.adr → a ∈ u.adr → i = j
theorem EnvR.has {K : PySem.W.Frag} {I H : Hp} {σ : L2.St} {e : En} (h : EnvR K I H σ e) {a : Addr} (ha : a ∈ adr e) : (∃ o, H a = some o ∧ ∀ xs, o ≠ .tup xs) ∧ I a = none := by
  obtain ⟨i, t, e1, e2⟩ := mem_adr.mp ha
  obtain ⟨x, _, r⟩ := h.at_ i t e1
  exact r.has e2
/-- free, or a tuple -/
def FreeT (H : Hp) (a : Addr) : Prop := ∀ o, H a = some o → ∃ xs, o = .tup xs
theorem FreeT.of {H : Hp} {a : Addr} (h : H a = none) : FreeT H a := fun o q => by rw [h] at q; cases q
/-- from state to state -/
structure Step (e : En) (I H : Hp) (e' : En) (I' H' : Hp) : Prop where
  imm : Le I I'
  keep : ∀ a o, H a = some o → a ∉ adr e → H' a = some o
  own : ∀ a, a ∈ adr e' → a ∈ adr e ∨ H a = none
  new : ∀ a o, I' a = some o → I a = some o ∨ a ∈ adr e ∨ FreeT H a
theorem Step.refl {e : En} {I H : Hp} : Step e I H e I H := ⟨Le.refl, fun _ _ h _ => h, fun _ h => .inl h, fun _ _ h => .inl h⟩
theorem Step.free {e e1 : En} {I H I1 H1 : Hp} (s : Step e I H e1 I1 H1) {a : Addr} (h : H1 a = none) : a ∈ adr e ∨ H a = none := by
  cases q : H a with
  | none => exact .inr rfl
  | some o =>
    refine Classical.byContradiction fun z => ?_
    have := s.keep a o q fun y => z (.inl y)
    rw [h] at this
    cases this
theorem Step.trans {e e1 e2 : En} {I H I1 H1 I2 H2 : Hp} (s : Step e I H e1 I1 H1) (t : Step e1 I1 H1 e2 I2 H2) : Step e I H e2 I2 H2 where
  imm := s.imm.trans t.imm
  keep := fun a o h n => t.keep a o (s.keep a o h n) fun z => by
    rcases s.own a z with q | q
    · exact n q
    · rw [h] at q; cases q
  own := fun a h => by
    rcases t.own a h with q | q
    · exact s.own a q
    · exact s.free q
  new := fun a o h => by
    rcases t.new a o h with q | q | q
    · exact s.new a o q
    · rcases s.own a q with q | q
      · exact .inr (.inl q)
      · exact .inr (.inr (.of q))
    · refine Classical.or_iff_not_imp_left.mpr fun _ => Classical.or_iff_not_imp_left.mpr fun n u hu => q u (s.keep a u hu n)
/-- a thing beside the frame's own stays -/
theorem EntR.step {K : PySem.W.Frag} {e e' : En} {I H I' H' : Hp} {x : V} {t : Ent} (h : EntR K I H x t) (s : Step e I H e' I' H') (n : ∀ a ∈ t.adr, a ∉ adr e) : EntR K I' H' x t ∧ ∀ a ∈ t.adr, a ∉ adr e' := by
  refine ⟨h.mono s.imm fun a ha => ⟨?_, fun o q => s.keep a o q (n a ha)⟩, fun a ha z => ?_⟩
  · obtain ⟨⟨o, q1, qt⟩, q2⟩ := h.has ha
    cases q : I' a with
    | none => rfl
    | some u =>
      rcases s.new a u q with z | z | z
      · rw [q2] at z; cases z
      · exact absurd z (n a ha)
      · obtain ⟨xs, e⟩ := z o q1
        exact absurd e (qt xs)
  · obtain ⟨⟨o, q1, qt⟩, q2⟩ := h.has ha
    rcases s.own a z with z | z
    · exact n a ha z
    · rw [q1] at z; cases z
/-! ### states -/
section
variable {K : PySem.W.Frag} {I H I' H' : Hp} {σ : L2.St} {e : En}
theorem adr_app (e c : En) : adr (e ++ c) = adr e ++ adr c := List.flatMap_append ..
theorem adr_one (o : Option Ent) : adr [o] = (match o with | some t => t.adr | none => []) := by
  unfold adr
  cases o <;> exact List.append_nil _
theorem mem_push {e : En} {o : Option Ent} {a : Addr} : a ∈ adr (e ++ [o]) ↔ a ∈ adr e ∨ ∃ t, o = some t ∧ a ∈ t.adr := by
  rw [adr_app, List.mem_append, adr_one]
  cases o with
  | none => simp
  | some t => simp
theorem EnvR.push {x : V} {t : Ent} (h : EnvR K I H σ e) (r : EntR K I H x t) (n : ∀ a ∈ t.adr, a ∉ adr e) : EnvR K I H (σ ++ [some x]) (e ++ [some t]) where
  len := by rw [List.length_append, List.length_append, h.len]; rfl
  at_ := fun i u q => by
    by_cases hi : i < e.length
    · rw [List.getElem?_append_left hi] at q
      obtain ⟨y, e1, e2⟩ := h.at_ i u q
      exact ⟨y, by rw [List.getElem?_append_left (by rw [← h.len]; exact hi)]; exact e1, e2⟩
    · rw [List.getElem?_append_right (by omega)] at q
      have hl := (List.getElem?_eq_some_iff.mp q).1
      have h0 : i - e.length = 0 := by simp at hl; omega
      rw [h0] at q
      cases q
      exact ⟨x, by rw [List.getElem?_append_right (by rw [← h.len]; omega), ← h.len, h0]; rfl, r⟩
  sep := fun i j u v a q1 q2 m1 m2 => by
    have last : ∀ {i : Nat} {u : Ent}, (e ++ [some t])[i]? = some (some u) → (i < e.length ∧ e[i]? = some (some u)) ∨ (i = e.length ∧ u = t) := fun {i u} q => by
      by_cases hi : i < e.length
      · rw [List.getElem?_append_left hi] at q
        exact .inl ⟨hi, q⟩
      · rw [List.getElem?_append_right (by omega)] at q
        have hl := (List.getElem?_eq_some_iff.mp q).1
        have h0 : i - e.length = 0 := by simp at hl; omega
        rw [h0] at q
        cases q
        exact .inr ⟨by omega, rfl⟩
    rcases last q1 with ⟨_, c1⟩ | ⟨c1, rfl⟩ <;> rcases last q2 with ⟨_, c2⟩ | ⟨c2, rfl⟩
    · exact h.sep i j u v a c1 c2 m1 m2
    · exact absurd (mem_adr.mpr ⟨i, u, c1, m1⟩) (n a m2)
    · exact absurd (mem_adr.mpr ⟨j, v, c2, m2⟩) (n a m1)
    · omega
theorem EnvR.pushN {y : Option V} (h : EnvR K I H σ e) : EnvR K I H (σ ++ [y]) (e ++ [none]) where
  len := by rw [List.length_append, List.length_append, h.len]; rfl
  at_ := fun i u q => by
    by_cases hi : i < e.length
    · rw [List.getElem?_append_left hi] at q
      obtain ⟨y, e1, e2⟩ := h.at_ i u q
      exact ⟨y, by rw [List.getElem?_append_left (by rw [← h.len]; exact hi)]; exact e1, e2⟩
    · rw [List.getElem?_append_right (by omega)] at q
      have hl := (List.getElem?_eq_some_iff.mp q).1
      have h0 : i - e.length = 0 := by simp at hl; omega
      rw [h0] at q
      cases q
  sep := fun i j u v a q1 q2 m1 m2 => by
    have last : ∀ {i : Nat} {u : Ent}, (e ++ [none])[i]? = some (some u) → e[i]? = some (some u) := fun {i u} q => by
      by_cases hi : i < e.length
      · rw [List.getElem?_append_left hi] at q
        exact q
      · rw [List.getElem?_append_right (by omega)] at q
        have hl := (List.getElem?_eq_some_iff.mp q).1
        have h0 : i - e.length = 0 := by simp at hl; omega
        rw [h0] at q
        cases q
    exact h.sep i j u v a (last q1) (last q2) m1 m2
/-- the first part -/
theorem EnvR.pre {σ' : L2.St} {c : En} (hl : e.length = σ.length) (h : EnvR K I H (σ ++ σ') (e ++ c)) : EnvR K I H σ e where
  len := hl
  at_ := fun i u q => by
    have hi := (List.getElem?_eq_some_iff.mp q).1
    obtain ⟨y, e1, e2⟩ := h.at_ i u (by rw [List.getElem?_append_left hi]; exact q)
    exact ⟨y, by rw [List.getElem?_append_left (by omega)] at e1; exact e1, e2⟩
  sep := fun i j u v a q1 q2 m1 m2 => by
    have h1 := (List.getElem?_eq_some_iff.mp q1).1
    have h2 := (List.getElem?_eq_some_iff.mp q2).1
    exact h.sep i j u v a (by rw [List.getElem?_append_left h1]; exact q1) (by rw [List.getElem?_append_left h2]; exact q2) m1 m2
theorem EnvR.set {i : Nat} {x : V} {t : Ent} (h : EnvR K I H σ e) (hi : i < e.length) (r : EntR K I H x t) (n : ∀ a ∈ t.adr, ∀ j u, j ≠ i → e[j]? = some (some u) → a ∉ u.adr) : EnvR K I H (σ.set i (some x)) (e.set i (some t)) where
  len := by rw [List.length_set, List.length_set, h.len]
  at_ := fun j u q => by
    by_cases hj : j = i
    · subst hj
      rw [List.getElem?_set_self hi] at q
      cases q
      exact ⟨x, List.getElem?_set_self (by rw [← h.len]; exact hi), r⟩
    · rw [List.getElem?_set_ne (Ne.symm hj)] at q
      obtain ⟨y, e1, e2⟩ := h.at_ j u q
      exact ⟨y, by rw [List.getElem?_set_ne (Ne.symm hj)]; exact e1, e2⟩
  sep := fun j k u v a q1 q2 m1 m2 => by
    by_cases hj : j = i <;> by_cases hk : k = i
    · omega
    · subst hj
      rw [List.getElem?_set_self hi] at q1
      cases q1
      rw [List.getElem?_set_ne (Ne.symm hk)] at q2
      exact absurd m2 (n a m1 k v hk q2)
    · subst hk
      rw [List.getElem?_set_self hi] at q2
      cases q2
      rw [List.getElem?_set_ne (Ne.symm hj)] at q1
      exact absurd m1 (n a m2 j u hj q1)
    · rw [List.getElem?_set_ne (Ne.symm hj)] at q1
      rw [List.getElem?_set_ne (Ne.symm hk)] at q2
      exact h.sep j k u v a q1 q2 m1 m2
theorem EnvR.setN {i : Nat} {y : Option V} (h : EnvR K I H σ e) : EnvR K I H (σ.set i y) (e.set i none) where
  len := by rw [List.length_set, List.length_set, h.len]
  at_ := fun j u q => by
    by_cases hj : j = i
    · subst hj
      have hl := (List.getElem?_eq_some_iff.mp q).1
      rw [List.length_set] at hl
      rw [List.getElem?_set_self hl] at q
      cases q
    · rw [List.getElem?_set_ne (Ne.symm hj)] at q
      obtain ⟨y, e1, e2⟩ := h.at_ j u q
      exact ⟨y, by rw [List.getElem?_set_ne (Ne.symm hj)]; exact e1, e2⟩
  sep := fun j k u v a q1 q2 m1 m2 => by
    have go : ∀ {j : Nat} {u : Ent}, (e.set i none)[j]? = some (some u) → e[j]? = some (some u) := fun {j u} q => by
      by_cases hj : j = i
      · subst hj
        have hl := (List.getElem?_eq_some_iff.mp q).1
        rw [List.length_set] at hl
        rw [List.getElem?_set_self hl] at q
        cases q
      · rw [List.getElem?_set_ne (Ne.symm hj)] at q
        exact q
    exact h.sep j k u v a (go q1) (go q2) m1 m2
/-- the things held stay -/
theorem EnvR.grow (h : EnvR K I H σ e) (le : Le I I') (k : ∀ a ∈ adr e, I' a = none ∧ ∀ o, H a = some o → H' a = some o) : EnvR K I' H' σ e :=
  ⟨h.len, fun i t q => by
    obtain ⟨x, e1, e2⟩ := h.at_ i t q
    exact ⟨x, e1, e2.mono le fun a ha => k a (mem_adr.mpr ⟨i, t, q, ha⟩)⟩, h.sep⟩
end
inductive Rv where
  | ent (t : Ent) | slot (i : Nat)
abbrev Rv.o : Rv → Option Ent
  | .ent t => some t
  | .slot _ => none
abbrev Rv.im (d : D) : Rv := .ent (.imm d)
abbrev Tm := List (V × Rv)
def tv (ps : Tm) : L2.St := ps.map fun p => some p.1
def tn (ps : Tm) : En := ps.map fun p => p.2.o
theorem tv_app (ps qs : Tm) : tv (ps ++ qs) = tv ps ++ tv qs := List.map_append ..
theorem tn_app (ps qs : Tm) : tn (ps ++ qs) = tn ps ++ tn qs := List.map_append ..
/-- a frame: the start, what is wanted of an exception -/
structure Fr where
  K : PySem.W.Frag
  e0 : En
  I0 : Hp
  H0 : Hp
  W : WX
  PX : Addr → D → En → Prop
structure ST (F : Fr) (σ : L2.St) (I H : Hp) (e : En) (ps : Tm) : Prop where
  sub : Sub I H
  len : e.length = σ.length
  env : EnvR F.K I H (σ ++ tv ps) (e ++ tn ps)
  ali : ∀ p ∈ ps, ∀ i, p.2 = .slot i → σ[i]? = some (some p.1) ∧ ∃ t, e[i]? = some (some t)
  base : Step F.e0 F.I0 F.H0 (e ++ tn ps) I H
abbrev EvF := En → (Rv → En → Prop) → Prop
def DT (F : Fr) (t : TE) (f : EvF) : Prop := ∀ (σ : L2.St) (I H : Hp) (e : En) (ps : Tm) (P : Rv → En → Prop) (Q : VK), ST F σ I H e ps → f e P →
  (∀ x r e' I' H', P r e' → ST F σ I' H' e' (ps ++ [(x, r)]) → Q x H') → t σ H Q
abbrev EvT := En → (Bool → En → Prop) → Prop
def DTT (F : Fr) (t : TT) (f : EvT) : Prop := ∀ (σ : L2.St) (I H : Hp) (e : En) (ps : Tm) (P : Bool → En → Prop) (Q : Bool → Hp → Prop), ST F σ I H e ps → f e P →
  (∀ b e' I' H', P b e' → ST F σ I' H' e' ps → Q b H') → t σ H Q
abbrev EvA := En → (List Rv → En → Prop) → Prop
def DTA (F : Fr) (t : TA) (f : EvA) : Prop := ∀ (σ : L2.St) (I H : Hp) (e : En) (ps : Tm) (P : List Rv → En → Prop) (Q : List V → Hp → Prop), ST F σ I H e ps → f e P →
  (∀ xs rs e' I' H', P rs e' → xs.length = rs.length → ST F σ I' H' e' (ps ++ xs.zip rs) → Q xs H') → t σ H Q
section
variable {F : Fr} {σ : L2.St} {I H I' H' : Hp} {e : En} {ps qs : Tm}
theorem ST.weak (s : ST F σ I H e (ps ++ qs)) : ST F σ I H e ps where
  sub := s.sub
  len := s.len
  env := by
    have h := s.env
    rw [tv_app, tn_app, ← List.append_assoc, ← List.append_assoc] at h
    refine EnvR.pre ?_ h
    rw [List.length_append, List.length_append, s.len]
    unfold tv tn
    rw [List.length_map, List.length_map]
  ali := fun p hp => s.ali p (List.mem_append_left _ hp)
  base := by
    have b := s.base
    rw [tn_app, ← List.append_assoc] at b
    exact ⟨b.imm, b.keep, fun a h => b.own a (by rw [adr_app]; exact List.mem_append_left _ h), b.new⟩
theorem ST.pushE {x : V} {t : Ent} (s : ST F σ I H e ps) (r : EntR F.K I H x t) (n : ∀ a ∈ t.adr, a ∉ adr (e ++ tn ps) ∧ (a ∈ adr F.e0 ∨ F.H0 a = none)) : ST F σ I H e (ps ++ [(x, .ent t)]) where
  sub := s.sub
  len := s.len
  env := by
    have h := s.env.push r fun a ha => (n a ha).1
    rw [tv_app, tn_app, ← List.append_assoc, ← List.append_assoc]
    exact h
  ali := fun p hp => by
    rcases List.mem_append.mp hp with h | h
    · exact s.ali p h
    · rw [List.mem_singleton] at h
      subst h
      intro i z
      cases z
  base := by
    have b := s.base
    rw [tn_app, ← List.append_assoc]
    refine ⟨b.imm, b.keep, fun a h => ?_, b.new⟩
    rcases mem_push.mp h with h | ⟨u, e1, h⟩
    · exact b.own a h
    · cases e1
      exact (n a h).2
theorem ST.pushI {x : V} {d : D} (s : ST F σ I H e ps) (r : Rep F.K I x d) : ST F σ I H e (ps ++ [(x, .im d)]) := s.pushE (t := .imm d) r fun a h => by simp at h
theorem ST.pushS {x : V} {i : Nat} {t : Ent} (s : ST F σ I H e ps) (r : σ[i]? = some (some x)) (ht : e[i]? = some (some t)) : ST F σ I H e (ps ++ [(x, .slot i)]) where
  sub := s.sub
  len := s.len
  env := by
    have h := s.env.pushN (y := some x)
    rw [tv_app, tn_app, ← List.append_assoc, ← List.append_assoc]
    exact h
  ali := fun p hp => by
    rcases List.mem_append.mp hp with h | h
    · exact s.ali p h
    · rw [List.mem_singleton] at h
      subst h
      intro j z
      cases z
      exact ⟨r, t, ht⟩
  base := by
    have b := s.base
    rw [tn_app, ← List.append_assoc]
    refine ⟨b.imm, b.keep, fun a h => ?_, b.new⟩
    rcases mem_push.mp h with h | ⟨u, e1, h⟩
    · exact b.own a h
    · cases e1
/-- the heap grows beside -/
structure Grow (I H I' H' : Hp) : Prop where
  le : Le I I'
  same : Le H H'
  sub : Sub I' H'
  new : ∀ a o, I' a = some o → I a = some o ∨ FreeT H a
theorem Grow.refl (s : Sub I H) : Grow I H I H := ⟨Le.refl, Le.refl, s, fun _ _ h => .inl h⟩
theorem Grow.trans {I1 H1 : Hp} (g : Grow I H I1 H1) (k : Grow I1 H1 I' H') : Grow I H I' H' := ⟨g.le.trans k.le, g.same.trans k.same, k.sub, fun a o h => by
  rcases k.new a o h with q | q
  · exact g.new a o q
  · exact .inr fun u hu => q u (g.same a u hu)⟩
theorem Grow.alloc {q : Addr} {o : HO} (s : Sub I H) (h : H q = none) : Grow I H I (upd H q o) := ⟨Le.refl, Le.new h, fun a u z => Le.new h a u (s a u z), fun _ _ z => .inl z⟩
theorem Sub.none (s : Sub I H) {a : Addr} (h : H a = none) : I a = none := by
  cases q : I a with
  | none => rfl
  | some o => rw [s a o q] at h; cases h
theorem Grow.allocI {q : Addr} {o : HO} (s : Sub I H) (h : H q = none) : Grow I H (upd I q o) (upd H q o) := by
  refine ⟨Le.new (s.none h), Le.new h, fun a u z => ?_, fun a u z => ?_⟩
  · by_cases c : a = q
    · subst c
      rw [upd_same] at z ⊢
      exact z
    · rw [upd_ne c] at z ⊢
      exact s a u z
  · by_cases c : a = q
    · subst c
      exact .inr (.of h)
    · rw [upd_ne c] at z
      exact .inl z
theorem ST.grow (s : ST F σ I H e ps) (g : Grow I H I' H') : ST F σ I' H' e ps where
  sub := g.sub
  len := s.len
  env := s.env.grow g.le fun a ha => by
    obtain ⟨⟨o, h1, ht⟩, h2⟩ := s.env.has ha
    refine ⟨?_, fun u q => g.same a u q⟩
    cases z : I' a with
    | none => rfl
    | some u =>
      rcases g.new a u z with q | q
      · rw [h2] at q; cases q
      · obtain ⟨xs, e⟩ := q o h1
        exact absurd e (ht xs)
  ali := s.ali
  base := s.base.trans ⟨g.le, fun a o h _ => g.same a o h, fun a h => .inl h, fun a o h => by
    rcases g.new a o h with q | q
    · exact .inl q
    · exact .inr (.inr q)⟩
/-- a new own thing -/
theorem ST.fresh (s : ST F σ I H e ps) {a : Addr} (h : H a = none) : a ∉ adr (e ++ tn ps) ∧ (a ∈ adr F.e0 ∨ F.H0 a = none)  := by
  refine ⟨fun z => ?_, s.base.free h⟩
  obtain ⟨⟨o, q, _⟩, _⟩ := s.env.has z
  rw [h] at q; cases q
theorem ST.pushG {x : V} {t : Ent} (s : ST F σ I H e ps) (g : Grow I H I' H') (r : EntR F.K I' H' x t) (n : ∀ a ∈ t.adr, H a = none) : ST F σ I' H' e (ps ++ [(x, .ent t)]) :=
  (s.grow g).pushE r fun a ha => s.fresh (n a ha)
end
/-! ### what a value holds -/
/-- x is d, by itself or as an own thing -/
def VwR (K : PySem.W.Frag) (I H : Hp) (x : V) (d : D) : Prop := Rep K I x d ∨ ∃ a, x = .ref a ∧ OwnR K I H a d
def val (e : En) : Rv → Option D
  | .ent (.imm d) => some d
  | .ent (.own _ d) => some d
  | .slot i => match e[i]? with
    | some (some (.imm d)) => some d
    | some (some (.own _ d)) => some d
    | _ => none
  | _ => none
theorem tm_at {σ : L2.St} {e : En} {ps qs : Tm} {x : V} {r : Rv} (hl : e.length = σ.length) : (σ ++ tv (ps ++ (x, r) :: qs))[σ.length + ps.length]? = some (some x) ∧ (e ++ tn (ps ++ (x, r) :: qs))[σ.length + ps.length]? = some r.o := by
  constructor
  · rw [List.getElem?_append_right (by omega)]
    unfold tv
    rw [List.getElem?_map, show σ.length + ps.length - σ.length = ps.length by omega, List.getElem?_append_right (by omega)]
    simp
  · rw [List.getElem?_append_right (by omega)]
    unfold tn
    rw [List.getElem?_map, show σ.length + ps.length - e.length = ps.length by omega, List.getElem?_append_right (by omega)]
    simp
section
variable {F : Fr} {σ : L2.St} {I H I' H' : Hp} {e : En} {ps qs : Tm}
theorem ST.temp {x : V} {t : Ent} (s : ST F σ I H e (ps ++ (x, .ent t) :: qs)) : EntR F.K I H x t := by
  obtain ⟨h1, h2⟩ := tm_at (ps := ps) (qs := qs) (x := x) (r := .ent t) s.len
  obtain ⟨y, e1, e2⟩ := s.env.at_ _ t h2
  rw [h1] at e1
  cases e1
  exact e2
theorem ST.slot {i : Nat} {t : Ent} (s : ST F σ I H e ps) (h : e[i]? = some (some t)) : ∃ x, σ[i]? = some (some x) ∧ EntR F.K I H x t := by
  have hi := (List.getElem?_eq_some_iff.mp h).1
  obtain ⟨x, e1, e2⟩ := s.env.at_ i t (by rw [List.getElem?_append_left hi]; exact h)
  rw [List.getElem?_append_left (by rw [← s.len]; exact hi)] at e1
  exact ⟨x, e1, e2⟩
theorem EntR.vw {K : PySem.W.Frag} {x : V} {t : Ent} {d : D} (h : EntR K I H x t) (e : t = .imm d ∨ ∃ a, t = .own a d) : VwR K I H x d := by
  rcases e with rfl | ⟨a, rfl⟩
  · exact .inl h
  · exact .inr ⟨a, h.1, h.2.2⟩
theorem ST.vw {x : V} {r : Rv} {d : D} (s : ST F σ I H e (ps ++ (x, r) :: qs)) (h : val e r = some d) : VwR F.K I H x d := by
  cases r with
  | ent t =>
    refine s.temp.vw ?_
    cases t with
    | imm d' => cases h; exact .inl rfl
    | own a d' => cases h; exact .inr ⟨a, rfl⟩
    | hand p c n => cases h
    | raw a xs => cases h
  | slot i =>
    have ha := (s.ali (x, .slot i) (by simp) i rfl).1
    unfold val at h
    dsimp only at h
    split at h
    · rename_i d' q
      cases h
      obtain ⟨y, e1, e2⟩ := s.slot q
      rw [ha] at e1
      cases e1
      exact .inl e2
    · rename_i a d' q
      cases h
      obtain ⟨y, e1, e2⟩ := s.slot q
      rw [ha] at e1
      cases e1
      exact .inr ⟨a, e2.1, e2.2.2⟩
    · cases h
end
/-! ### a thing of one's own becomes one that never changes -/
def frz (e : En) : Rv → Option (D × En)
  | .ent (.imm d) => some (d, e)
  | .ent (.own _ d) => some (d, e)
  | .slot i => match e[i]? with
    | some (some (.imm d)) => some (d, e)
    | some (some (.own _ d)) => some (d, e.set i (some (.imm d)))
    | _ => none
  | _ => none
def frzs (e : En) : List Rv → Option (List D × En)
  | [] => some ([], e)
  | r :: rs => match frz e r with
    | some (d, e1) => match frzs e1 rs with
      | some (ds, e2) => some (d :: ds, e2)
      | none => none
    | none => none
theorem OwnR.frz {K : PySem.W.Frag} {I H : Hp} {a : Addr} {d : D} (h : OwnR K I H a d) (n : I a = none) : ∃ o, H a = some o ∧ Rep K (upd I a o) (.ref a) d := by
  have le : ∀ {o}, Le I (upd I a o) := Le.new n
  cases d with
  | lst ds => obtain ⟨xs, q, r⟩ := h; exact ⟨_, q, .lst upd_same (r.mono le)⟩
  | dic es => obtain ⟨xs, q, m, r⟩ := h; exact ⟨_, q, .dic upd_same m (r.mono le)⟩
  | dik es => obtain ⟨xs, q, m, r⟩ := h; exact ⟨_, q, .dik upd_same m (r.mono le)⟩
  | obj C es => obtain ⟨dx, xs, q, m, r⟩ := h; exact ⟨_, q, .obj upd_same m (r.mono le)⟩
  | _ => exact False.elim h
theorem EnvR.frz {K : PySem.W.Frag} {I H : Hp} {σ : L2.St} {c : En} {i : Nat} {x : V} {a : Addr} {d : D} (h : EnvR K I H σ c) (hx : σ[i]? = some (some x)) (q : c[i]? = some (some (.own a d))) :
    ∃ o, H a = some o ∧ I a = none ∧ EnvR K (upd I a o) H σ (c.set i (some (.imm d))) ∧ Rep K (upd I a o) x d := by
  obtain ⟨y, e1, rfl, n, w⟩ := h.at_ i _ q
  rw [hx] at e1
  cases e1
  obtain ⟨o, ho, rp⟩ := w.frz n
  have hi := (List.getElem?_eq_some_iff.mp q).1
  refine ⟨o, ho, n, ⟨by rw [List.length_set]; exact h.len, fun j u z => ?_, fun j k u v b z1 z2 m1 m2 => ?_⟩, rp⟩
  · by_cases hj : j = i
    · subst hj
      rw [List.getElem?_set_self hi] at z
      cases z
      exact ⟨_, hx, rp⟩
    · rw [List.getElem?_set_ne (Ne.symm hj)] at z
      obtain ⟨y, e1, e2⟩ := h.at_ j u z
      refine ⟨y, e1, e2.mono (Le.new n) fun b hb => ⟨?_, fun _ w => w⟩⟩
      have hba : b ≠ a := fun w => by
        subst w
        exact hj (h.sep j i u _ b z q hb (by simp))
      rw [upd_ne hba]
      exact (e2.has hb).2
  · by_cases hj : j = i
    · subst hj
      rw [List.getElem?_set_self hi] at z1
      cases z1
      simp at m1
    · by_cases hk : k = i
      · subst hk
        rw [List.getElem?_set_self hi] at z2
        cases z2
        simp at m2
      · rw [List.getElem?_set_ne (Ne.symm hj)] at z1
        rw [List.getElem?_set_ne (Ne.symm hk)] at z2
        exact h.sep j k u v b z1 z2 m1 m2
theorem adr_set_imm {c : En} {i : Nat} {d : D} {b : Addr} (h : b ∈ adr (c.set i (some (.imm d)))) : b ∈ adr c := by
  obtain ⟨j, u, q, m⟩ := mem_adr.mp h
  by_cases hj : j = i
  · subst hj
    have hl := (List.getElem?_eq_some_iff.mp q).1
    rw [List.length_set] at hl
    rw [List.getElem?_set_self hl] at q
    cases q
    simp at m
  · rw [List.getElem?_set_ne (Ne.symm hj)] at q
    exact mem_adr.mpr ⟨j, u, q, m⟩
theorem Step.frz {e0 c : En} {I0 H0 I H : Hp} {i : Nat} {a : Addr} {d : D} {o : HO} (s : Step e0 I0 H0 c I H) (q : c[i]? = some (some (.own a d))) (n : I a = none) : Step e0 I0 H0 (c.set i (some (.imm d))) (upd I a o) H :=
  s.trans ⟨Le.new n, fun _ _ h _ => h, fun b h => .inl (adr_set_imm h), fun b u h => by
    by_cases hb : b = a
    · subst hb
      exact .inr (.inl (mem_adr.mpr ⟨i, _, q, by simp⟩))
    · rw [upd_ne hb] at h
      exact .inl h⟩
theorem alive_set {e : En} {i j : Nat} {u : Ent} (h : ∃ t, e[j]? = some (some t)) : ∃ t, (e.set i (some u))[j]? = some (some t) := by
  obtain ⟨t, h⟩ := h
  by_cases hj : j = i
  · subst hj
    exact ⟨u, List.getElem?_set_self (List.getElem?_eq_some_iff.mp h).1⟩
  · exact ⟨t, by rw [List.getElem?_set_ne (Ne.symm hj)]; exact h⟩
theorem tn_set {σ : L2.St} {e : En} {ps qs : Tm} {x : V} {r r' : Rv} (hl : e.length = σ.length) : (e ++ tn (ps ++ (x, r) :: qs)).set (σ.length + ps.length) r'.o = e ++ tn (ps ++ (x, r') :: qs) := by
  have z : (e ++ tn ps).length = σ.length + ps.length := by
    rw [List.length_append, hl]
    unfold tn
    rw [List.length_map]
  have k : ∀ r : Rv, tn (ps ++ (x, r) :: qs) = tn ps ++ r.o :: tn qs := fun r => by rw [tn_app]; rfl
  rw [k, k, ← List.append_assoc, ← List.append_assoc, List.set_append_right _ _ (by omega), z, Nat.sub_self]
  rfl
theorem tv_eq {ps qs : Tm} {x : V} {r r' : Rv} : tv (ps ++ (x, r) :: qs) = tv (ps ++ (x, r') :: qs) := by
  rw [tv_app, tv_app]
  rfl
section
variable {F : Fr} {σ : L2.St} {I H I' H' : Hp} {e e' : En} {ps qs : Tm}
/-- a value that never changes, in the place of what was told of it -/
theorem ST.immAt {x : V} {r : Rv} {d : D} (s : ST F σ I H e (ps ++ (x, r) :: qs)) (h : Rep F.K I x d) : ST F σ I H e (ps ++ (x, .im d) :: qs) where
  sub := s.sub
  len := s.len
  env := by
    obtain ⟨h1, h2⟩ := tm_at (ps := ps) (qs := qs) (x := x) (r := r) s.len
    have z := s.env.set (i := σ.length + ps.length) (x := x) (t := .imm d) (List.getElem?_eq_some_iff.mp h2).1 h fun a ha => by simp at ha
    rw [show some (Ent.imm d) = (Rv.im d).o from rfl, tn_set s.len] at z
    have w : (σ ++ tv (ps ++ (x, r) :: qs)).set (σ.length + ps.length) (some x) = σ ++ tv (ps ++ (x, .im d) :: qs) := by
      rw [tv_eq (r' := .im d)]
      refine List.ext_getElem? fun j => ?_
      by_cases hj : j = σ.length + ps.length
      · subst hj
        have g := (tm_at (ps := ps) (qs := qs) (x := x) (r := .im d) s.len).1
        rw [List.getElem?_set_self (List.getElem?_eq_some_iff.mp g).1, g]
      · rw [List.getElem?_set_ne (Ne.symm hj)]
    rw [w] at z
    exact z
  ali := fun p hp i q => by
    rcases List.mem_append.mp hp with m | m
    · exact s.ali p (List.mem_append_left _ m) i q
    · rcases List.mem_cons.mp m with m | m
      · subst m; cases q
      · exact s.ali p (List.mem_append_right _ (List.mem_cons_of_mem _ m)) i q
  base := by
    have b := s.base
    refine ⟨b.imm, b.keep, fun a ha => b.own a ?_, b.new⟩
    rw [← tn_set s.len (r := r)] at ha
    exact adr_set_imm ha
theorem ST.frz {x : V} {r : Rv} {d : D} (s : ST F σ I H e (ps ++ (x, r) :: qs)) (h : frz e r = some (d, e')) : ∃ I', Le I I' ∧ ST F σ I' H e' (ps ++ (x, .im d) :: qs) := by
  cases r with
  | ent t =>
    cases t with
    | imm d' => cases h; exact ⟨I, Le.refl, s⟩
    | hand p c n => cases h
    | raw a xs => cases h
    | own a d' =>
      cases h
      obtain ⟨h1, h2⟩ := tm_at (ps := ps) (qs := qs) (x := x) (r := .ent (.own a d)) s.len
      obtain ⟨o, ho, n, z, rp⟩ := s.env.frz h1 h2
      refine ⟨upd I a o, Le.new n, ?_⟩
      have b := s.base.frz (o := o) h2 n
      rw [show some (Ent.imm d) = (Rv.im d).o from rfl, tn_set s.len] at z b
      rw [tv_eq (r' := .im d)] at z
      refine ⟨fun b u q => ?_, s.len, z, fun p hp i q => ?_, b⟩
      · by_cases hb : b = a
        · subst hb; rw [upd_same] at q; rw [ho, q]
        · rw [upd_ne hb] at q; exact s.sub b u q
      · rcases List.mem_append.mp hp with m | m
        · exact s.ali p (List.mem_append_left _ m) i q
        · rcases List.mem_cons.mp m with m | m
          · subst m; cases q
          · exact s.ali p (List.mem_append_right _ (List.mem_cons_of_mem _ m)) i q
  | slot i =>
    have ha := (s.ali (x, .slot i) (by simp) i rfl).1
    unfold TK.frz at h
    dsimp only at h
    split at h
    · rename_i d' q
      cases h
      obtain ⟨y, e1, e2⟩ := s.slot q
      rw [ha] at e1
      cases e1
      exact ⟨I, Le.refl, s.immAt e2⟩
    · rename_i a d' q
      cases h
      have hi := (List.getElem?_eq_some_iff.mp q).1
      have q' : (e ++ tn (ps ++ (x, .slot i) :: qs))[i]? = some (some (.own a d)) := by rw [List.getElem?_append_left hi]; exact q
      have ha' : (σ ++ tv (ps ++ (x, .slot i) :: qs))[i]? = some (some x) := by rw [List.getElem?_append_left (by rw [← s.len]; exact hi)]; exact ha
      obtain ⟨o, ho, n, z, rp⟩ := s.env.frz ha' q'
      have b := s.base.frz (o := o) q' n
      rw [List.set_append_left _ _ hi] at z b
      refine ⟨upd I a o, Le.new n, ST.immAt (r := .slot i) ⟨fun b u q => ?_, by rw [List.length_set]; exact s.len, z, fun p hp j w => ⟨(s.ali p hp j w).1, alive_set (s.ali p hp j w).2⟩, b⟩ rp⟩
      by_cases hb : b = a
      · subst hb; rw [upd_same] at q; rw [ho, q]
      · rw [upd_ne hb] at q; exact s.sub b u q
    · cases h
/-- several values -/
theorem ST.frzs : ∀ {xs : List V} {rs : List Rv} {ds : List D} {e e' : En} {I : Hp} {ps : Tm}, ST F σ I H e (ps ++ xs.zip rs) → xs.length = rs.length → frzs e rs = some (ds, e') →
    ∃ I', Le I I' ∧ ST F σ I' H e' ps ∧ Reps F.K I' xs ds
  | [], [], ds, e, e', I, ps, s, _, h => by
    cases h
    simp at s
    exact ⟨I, Le.refl, s, .nil⟩
  | x :: xs, r :: rs, ds, e, e', I, ps, s, hl, h => by
    unfold TK.frzs at h
    split at h
    · rename_i d e1 h1
      split at h
      · rename_i ds' e2 h2
        cases h
        rw [List.zip_cons_cons] at s
        obtain ⟨I1, l1, s1⟩ := s.frz h1
        have s1' : ST F σ I1 H e1 ((ps ++ [(x, .im d)]) ++ xs.zip rs) := by rw [List.append_assoc]; exact s1
        obtain ⟨I2, l2, s2, r2⟩ := ST.frzs s1' (by simpa using hl) h2
        exact ⟨I2, l1.trans l2, s2.weak, .cons (ST.temp (ps := ps) (qs := []) (t := .imm d) s2) r2⟩
      · cases h
    · cases h
end
/-! ### expressions -/
structure DE (X : Cx) (F : Fr) (ex : Expr) (f : EvF) : Prop where
  ex : ∃ t, PE X ex t ∧ DT F t f
structure DA (X : Cx) (F : Fr) (es : List Expr) (f : EvA) : Prop where
  ex : ∃ t, PA X es t ∧ DTA F t f
structure DTe (X : Cx) (F : Fr) (ex : Expr) (f : EvT) : Prop where
  ex : ∃ t, PT X ex t ∧ DTT F t f
def eVar (i : Nat) : EvF := fun e P => (∃ d, e[i]? = some (some (.imm d)) ∧ P (.im d) e) ∨ ∃ t, e[i]? = some (some t) ∧ P (.slot i) e
def eC (d : D) : EvF := fun e P => P (.im d) e
def aNil : EvA := fun e P => P [] e
def aCons (f : EvF) (g : EvA) : EvA := fun e P => f e fun r e1 => g e1 fun rs e2 => P (r :: rs) e2
def eTup (g : EvA) : EvF := fun e P => g e fun rs e1 => ∃ ds e2, frzs e1 rs = some (ds, e2) ∧ ds.length ≤ 1000 ∧ P (.im (.tup ds)) e2
def eLst (g : EvA) : EvF := fun e P => g e fun rs e1 => ∃ ds e2, frzs e1 rs = some (ds, e2) ∧ ds.length ≤ 1000 ∧ ∀ a, P (.ent (.own a (.lst ds))) e2
def eDnT : EvF := fun e P => ∀ a, P (.ent (.own a (.dic []))) e
def eDnK : EvF := fun e P => ∀ a, P (.ent (.own a (.dik []))) e
section
variable {X : Cx} {F : Fr} {pos : Pos}
theorem de_var {i : Nat} {x : Str} (hN : X.N[i]? = some x) (hv : Vis X.env.scope x) (hd : (x == ("__debug__" : Str)) = false := by decide) (hcd : (x == ("__classdict__" : Str)) = false := by decide) : DE X F (.Name x pos) (eVar i) :=
  ⟨_, pe_var hN hv hd hcd, fun σ I H e ps P Q s h k => by
    rcases h with ⟨d, q, h⟩ | ⟨t, q, h⟩
    · obtain ⟨y, e1, e2⟩ := s.slot q
      exact ⟨y, e1, k y _ e I H h (s.pushI e2)⟩
    · obtain ⟨y, e1, e2⟩ := s.slot q
      exact ⟨y, e1, k y _ e I H h (s.pushS e1 q)⟩⟩
theorem DT.c {v : V} {d : D} (h : ∀ I, Rep F.K I v d) : DT F (tC v) (eC d) := fun σ I H e ps P Q s q k => k v _ e I H q (s.pushI (h I))
theorem de_int {i j} : DE X F (.Constant (.int i) j pos) (eC (.int i)) := ⟨_, pe_int, DT.c fun _ => .int i⟩
theorem de_bl {b j} : DE X F (.Constant (.bool b) j pos) (eC (.bl b)) := ⟨_, pe_bl, DT.c fun _ => .bl b⟩
theorem de_non {j} : DE X F (.Constant .none j pos) (eC .non) := ⟨_, pe_non, DT.c fun _ => .non⟩
theorem de_str {x j} : DE X F (.Constant (.str x) j pos) (eC (.str x)) := ⟨_, pe_str, DT.c fun _ => .str x⟩
theorem de_glob {x : Str} {v : V} {d : D} {u : Value} (hg : Gl X x) (hm : X.mg x = some u) (r : RelV v u) (h : ∀ I, Rep F.K I v d) (hd : (x == ("__debug__" : Str)) = false := by decide) : DE X F (.Name x pos) (eC d) := ⟨_, pe_glob hg hm r hd, DT.c h⟩
theorem de_bltn {x n : String} (hg : Gl X x) (hm : X.mg x = none) (hv : bootBuiltins x = some (.type n)) (hn : (x : Str) ≠ "__name__" := by decide) (hd : ((x : Str) == ("__debug__" : Str)) = false := by decide) : DE X F (.Name x pos) (eC (.ty n)) :=
  ⟨_, pe_bltn (v := .ty n) hg hm hv rfl hn hd, DT.c fun _ => .ty n⟩
theorem da_nil : DA X F [] aNil := ⟨_, pa_nil, fun σ I H e ps P Q s h k => k [] [] e I H h rfl (by simpa using s)⟩
theorem da_cons {ex : Expr} {es : List Expr} {f : EvF} {g : EvA} (h1 : DE X F ex f) (h2 : DA X F es g) (hs : starEach (ex :: es) X.env = (false, eval ex X.env) :: starEach es X.env := by rfl) : DA X F (ex :: es) (aCons f g) := by
  obtain ⟨t1, p1, d1⟩ := h1
  obtain ⟨t2, p2, d2⟩ := h2
  refine ⟨_, pa_cons p1 p2 hs, fun σ I H e ps P Q s h k => ?_⟩
  refine d1 σ I H e ps _ _ s h fun x r e1 I1 H1 h1 s1 => ?_
  refine d2 σ I1 H1 e1 _ _ _ s1 h1 fun xs rs e2 I2 H2 h2 hl s2 => ?_
  refine k (x :: xs) (r :: rs) e2 I2 H2 h2 (by simp [hl]) ?_
  rw [List.zip_cons_cons]
  rw [List.append_assoc] at s2
  exact s2
theorem de_tup {es : List Expr} {g : EvA} {x1} (h : DA X F es g) : DE X F (.Tuple es x1 pos) (eTup g) := by
  obtain ⟨t, p, d⟩ := h
  refine ⟨_, pe_tup p, fun σ I H e ps P Q s h k => ?_⟩
  refine d σ I H e ps _ _ s h fun xs rs e1 I1 H1 h1 hl s1 => ?_
  obtain ⟨ds, e2, hf, hz, h2⟩ := h1
  obtain ⟨I2, l2, s2, r2⟩ := s1.frzs hl hf
  refine ⟨Nat.le_trans (by rw [r2.len]; exact hz) (by decide), fun p hp => ?_⟩
  have g := Grow.allocI (o := .tup xs) s2.sub hp
  exact k _ _ e2 _ _ h2 (s2.pushG (t := .imm (.tup ds)) g (.tup upd_same (r2.mono g.le)) fun a ha => by simp at ha)
theorem de_lst {es : List Expr} {g : EvA} (h : DA X F es g) : DE X F (.List es pos) (eLst g) := by
  obtain ⟨t, p, d⟩ := h
  refine ⟨_, pe_lst p, fun σ I H e ps P Q s h k => ?_⟩
  refine d σ I H e ps _ _ s h fun xs rs e1 I1 H1 h1 hl s1 => ?_
  obtain ⟨ds, e2, hf, hz, h2⟩ := h1
  obtain ⟨I2, l2, s2, r2⟩ := s1.frzs hl hf
  refine ⟨Nat.le_trans (by rw [r2.len]; exact hz) (by decide), fun p hp => ?_⟩
  have g := Grow.alloc (o := .lst xs) s2.sub hp
  exact k _ _ e2 _ _ (h2 p) (s2.pushG (t := .own p (.lst ds)) g ⟨rfl, s2.sub.none hp, xs, upd_same, r2⟩ fun a ha => by simp at ha; subst ha; exact hp)
theorem de_dnT : DE X F (.Dict [] [] pos) eDnT := ⟨_, pe_dnewT, fun σ I H e ps P Q s h k p hp => k _ _ e _ _ (h p) (s.pushG (t := .own p (.dic [])) (Grow.alloc s.sub hp) ⟨rfl, s.sub.none hp, [], upd_same, rfl, .nil⟩ fun a ha => by simp at ha; subst ha; exact hp)⟩
theorem de_dnK : DE X F (.Dict [] [] pos) eDnK := ⟨_, pe_dnewK, fun σ I H e ps P Q s h k p hp => k _ _ e _ _ (h p) (s.pushG (t := .own p (.dik [])) (Grow.alloc s.sub hp) ⟨rfl, s.sub.none hp, [], upd_same, rfl, .nil⟩ fun a ha => by simp at ha; subst ha; exact hp)⟩
end
/-! ### operations on values -/
abbrev DO2 := D → D → (Ent → Prop) → Prop
/-- what an operation on values leaves -/
abbrev Lands (K : PySem.W.Frag) (I H : Hp) (P : Ent → Prop) (Q : VK) : Prop := ∀ z t I' H', P t → Grow I H I' H' → EntR K I' H' z t → (∀ a ∈ t.adr, H a = none) → Q z H'
def DOp (K : PySem.W.Frag) (r : R2) (g : DO2) : Prop := ∀ (I H : Hp) (x y : V) (c d : D) (P : Ent → Prop) (Q : VK), Sub I H → VwR K I H x c → VwR K I H y d → g c d P → Lands K I H P Q → r x y H Q
abbrev DO1 := D → (Ent → Prop) → Prop
def DUn (K : PySem.W.Frag) (r : V → Hp → VK → Prop) (g : DO1) : Prop := ∀ (I H : Hp) (x : V) (c : D) (P : Ent → Prop) (Q : VK), Sub I H → VwR K I H x c → g c P → Lands K I H P Q → r x H Q
inductive VwRs (K : PySem.W.Frag) (I H : Hp) : List V → List D → Prop
  | nil : VwRs K I H [] []
  | cons {x : V} {xs : List V} {d : D} {ds : List D} : VwR K I H x d → VwRs K I H xs ds → VwRs K I H (x :: xs) (d :: ds)
abbrev DON := List D → (Ent → Prop) → Prop
def DCl (K : PySem.W.Frag) (r : List V → Hp → VK → Prop) (g : DON) : Prop := ∀ (I H : Hp) (xs : List V) (ds : List D) (P : Ent → Prop) (Q : VK), Sub I H → VwRs K I H xs ds → g ds P → Lands K I H P Q → r xs H Q
def vals (e : En) : List Rv → Option (List D)
  | [] => some []
  | r :: rs => match val e r with
    | some d => match vals e rs with
      | some ds => some (d :: ds)
      | none => none
    | none => none
def eOp (g : DO2) (f1 f2 : EvF) : EvF := fun e P => f1 e fun r1 e1 => f2 e1 fun r2 e2 => ∃ c d, val e2 r1 = some c ∧ val e2 r2 = some d ∧ g c d fun t => P (.ent t) e2
def eUn (g : DO1) (f : EvF) : EvF := fun e P => f e fun r e1 => ∃ c, val e1 r = some c ∧ g c fun t => P (.ent t) e1
def eCl (g : DON) (f : EvA) : EvF := fun e P => f e fun rs e1 => ∃ ds, vals e1 rs = some ds ∧ g ds fun t => P (.ent t) e1
section
variable {F : Fr} {σ : L2.St} {I H I' H' : Hp} {e e' : En} {ps qs : Tm}
theorem ST.vws : ∀ {xs : List V} {rs : List Rv} {ds : List D} {ps : Tm}, ST F σ I H e (ps ++ xs.zip rs) → xs.length = rs.length → vals e rs = some ds → VwRs F.K I H xs ds
  | [], [], ds, ps, s, _, h => by
    cases h
    exact .nil
  | x :: xs, r :: rs, ds, ps, s, hl, h => by
    unfold TK.vals at h
    split at h
    · rename_i d h1
      split at h
      · rename_i ds' h2
        cases h
        rw [List.zip_cons_cons] at s
        have s1 : ST F σ I H e ((ps ++ [(x, r)]) ++ xs.zip rs) := by rw [List.append_assoc]; exact s
        exact .cons (s.vw h1) (ST.vws s1 (by simpa using hl) h2)
      · cases h
    · cases h
theorem DT.op {r : R2} {g : DO2} {ta tb : TE} {f1 f2 : EvF} (hr : DOp F.K r g) (d1 : DT F ta f1) (d2 : DT F tb f2) : DT F (tOp r ta tb) (eOp g f1 f2) := fun σ I H e ps P Q s h k => by
  refine d1 σ I H e ps _ _ s h fun x r1 e1 I1 H1 h1 s1 => ?_
  refine d2 σ I1 H1 e1 _ _ _ s1 h1 fun y r2 e2 I2 H2 h2 s2 => ?_
  obtain ⟨c, d, v1, v2, h3⟩ := h2
  rw [List.append_assoc] at s2
  have s2' := s2
  rw [← List.append_assoc] at s2'
  exact hr I2 H2 x y c d _ _ s2.sub (s2.vw v1) (ST.vw (ps := ps ++ [(x, r1)]) (qs := []) s2' v2) h3 fun z t I3 H3 p3 g3 r3 n3 => k z _ e2 I3 H3 p3 (s2.weak.pushG g3 r3 n3)
theorem DT.un {r : V → Hp → VK → Prop} {g : DO1} {ta : TE} {f : EvF} (hr : DUn F.K r g) (d1 : DT F ta f) : DT F (tUn r ta) (eUn g f) := fun σ I H e ps P Q s h k => by
  refine d1 σ I H e ps _ _ s h fun x r1 e1 I1 H1 h1 s1 => ?_
  obtain ⟨c, v1, h3⟩ := h1
  exact hr I1 H1 x c _ _ s1.sub (s1.vw v1) h3 fun z t I3 H3 p3 g3 r3 n3 => k z _ e1 I3 H3 p3 (s1.weak.pushG g3 r3 n3)
theorem DT.cl {r : List V → Hp → VK → Prop} {g : DON} {t : TA} {f : EvA} (hr : DCl F.K r g) (d1 : DTA F t f) : DT F (fun σ H Q => t σ H fun vs H1 => r vs H1 Q) (eCl g f) := fun σ I H e ps P Q s h k => by
  refine d1 σ I H e ps _ _ s h fun xs rs e1 I1 H1 h1 hl s1 => ?_
  obtain ⟨ds, v1, h3⟩ := h1
  exact hr I1 H1 xs ds _ _ s1.sub (s1.vws hl v1) h3 fun z t I3 H3 p3 g3 r3 n3 => k z _ e1 I3 H3 p3 (s1.weak.pushG g3 r3 n3)
end
/-! views by shape -/
section
variable {K : PySem.W.Frag} {I H : Hp} {x : V}
theorem VwR.int {i : Int} (h : VwR K I H x (.int i)) : x = .int i := by
  rcases h with h | ⟨a, _, h⟩
  · cases h; rfl
  · exact False.elim h
theorem VwR.bl {i : Bool} (h : VwR K I H x (.bl i)) : x = .bl i := by
  rcases h with h | ⟨a, _, h⟩
  · cases h; rfl
  · exact False.elim h
theorem VwR.str {i : Str} (h : VwR K I H x (.str i)) : x = .str i := by
  rcases h with h | ⟨a, _, h⟩
  · cases h; rfl
  · exact False.elim h
theorem VwR.non (h : VwR K I H x .non) : x = .non := by
  rcases h with h | ⟨a, _, h⟩
  · cases h; rfl
  · exact False.elim h
theorem VwR.ty {n : String} (h : VwR K I H x (.ty n)) : x = .ty n := by
  rcases h with h | ⟨a, _, h⟩
  · cases h; rfl
  · exact False.elim h
theorem VwR.lst {ds : List D} (s : Sub I H) (h : VwR K I H x (.lst ds)) : ∃ a xs, x = .ref a ∧ H a = some (.lst xs) ∧ Reps K I xs ds := by
  rcases h with h | ⟨a, rfl, xs, h, r⟩
  · cases h with
    | lst h r => exact ⟨_, _, rfl, s _ _ h, r⟩
  · exact ⟨a, xs, rfl, h, r⟩
theorem VwR.fls {ds : List D} (s : Sub I H) (h : VwR K I H x (.fls ds)) : ∃ a xs, x = .ref a ∧ SqL K H a xs ∧ Reps K I xs ds := by
  rcases h with h | ⟨a, _, h⟩
  · cases h with
    | fls h r => exact ⟨_, _, rfl, Le.sqL s h, r⟩
  · exact False.elim h
theorem VwR.tup {ds : List D} (s : Sub I H) (h : VwR K I H x (.tup ds)) : ∃ a xs, x = .ref a ∧ H a = some (.tup xs) ∧ Reps K I xs ds := by
  rcases h with h | ⟨a, _, h⟩
  · cases h with
    | tup h r => exact ⟨_, _, rfl, s _ _ h, r⟩
  · exact False.elim h
theorem VwR.ftp {ds : List D} (s : Sub I H) (h : VwR K I H x (.ftp ds)) : ∃ a xs, x = .ref a ∧ SqT K H a xs ∧ Reps K I xs ds := by
  rcases h with h | ⟨a, _, h⟩
  · cases h with
    | ftp h r => exact ⟨_, _, rfl, Le.sqT s h, r⟩
  · exact False.elim h
theorem VwR.dic {es : List (List Key × D)} (s : Sub I H) (h : VwR K I H x (.dic es)) : ∃ a kvs, x = .ref a ∧ H a = some (.dT kvs) ∧ kvs.map (·.1) = es.map (·.1) ∧ Reps K I (kvs.map (·.2)) (es.map (·.2)) := by
  rcases h with h | ⟨a, rfl, xs, h, m, r⟩
  · cases h with
    | dic h m r => exact ⟨_, _, rfl, s _ _ h, m, r⟩
  · exact ⟨a, xs, rfl, h, m, r⟩
theorem VwR.dik {es : List (Key × D)} (s : Sub I H) (h : VwR K I H x (.dik es)) : ∃ a kvs, x = .ref a ∧ H a = some (.dK kvs) ∧ kvs.map (·.1) = es.map (·.1) ∧ Reps K I (kvs.map (·.2)) (es.map (·.2)) := by
  rcases h with h | ⟨a, rfl, xs, h, m, r⟩
  · cases h with
    | dik h m r => exact ⟨_, _, rfl, s _ _ h, m, r⟩
  · exact ⟨a, xs, rfl, h, m, r⟩
theorem VwR.obj {C : Addr} {es : List (Str × D)} (s : Sub I H) (h : VwR K I H x (.obj C es)) : ∃ a dx fs, x = .ref a ∧ H a = some (.ins C dx fs) ∧ fs.map (·.1) = es.map (·.1) ∧ Reps K I (fs.map (·.2)) (es.map (·.2)) := by
  rcases h with h | ⟨a, q, h⟩
  · cases h with
    | obj h m r => exact ⟨_, _, _, rfl, s _ _ h, m, r⟩
  · obtain ⟨dx, fs, h1, m, r⟩ := h
    exact ⟨a, dx, fs, q, h1, m, r⟩
theorem Lands.imm {P : Ent → Prop} {Q : VK} {d : D} (k : Lands K I H P Q) (s : Sub I H) (p : P (.imm d)) (r : Rep K I x d) : Q x H := k x _ I H p (Grow.refl s) r fun a ha => by simp at ha
theorem Lands.lst {P : Ent → Prop} {Q : VK} {xs : List V} {ds : List D} (k : Lands K I H P Q) (s : Sub I H) (p : ∀ a, P (.own a (.lst ds))) (r : Reps K I xs ds) : ∀ q, H q = none → Q (.ref q) (upd H q (.lst xs)) := fun q hq =>
  k _ _ _ _ (p q) (Grow.alloc s hq) ⟨rfl, s.none hq, xs, upd_same, r⟩ fun a ha => by simp at ha; subst ha; exact hq
theorem Lands.tup {P : Ent → Prop} {Q : VK} {xs : List V} {ds : List D} (k : Lands K I H P Q) (s : Sub I H) (p : P (.imm (.tup ds))) (r : Reps K I xs ds) : ∀ q, H q = none → Q (.ref q) (upd H q (.tup xs)) := fun q hq =>
  k _ _ _ _ p (Grow.allocI s hq) (.tup upd_same (r.mono (Le.new (s.none hq)))) fun a ha => by simp at ha
end
/-! ### operators -/
def MulOk (i j : Int) : Prop := CMul i j ∨ CMulW i j
def DivOk (j : Int) : Prop := 0 < j ∧ (j < 1073741824 ∨ j.natAbs.log2 < 9000)
def oAdd : DO2
  | .int i, .int j, P => P (.imm (.int (i + j)))
  | .str x, .str y, P => x.length + y.length ≤ sizeLine ∧ P (.imm (.str (x ++ y)))
  | .lst xs, .lst ys, P => xs.length + ys.length ≤ sizeLine ∧ ∀ a, P (.own a (.lst (xs ++ ys)))
  | _, _, _ => False
def oSub : DO2
  | .int i, .int j, P => P (.imm (.int (i - j)))
  | _, _, _ => False
def oMul : DO2
  | .int i, .int j, P => MulOk i j ∧ P (.imm (.int (i * j)))
  | _, _, _ => False
def oDiv : DO2
  | .int i, .int j, P => DivOk j ∧ P (.imm (.int (i / j)))
  | _, _, _ => False
def oMod : DO2
  | .int i, .int j, P => 0 < j ∧ P (.imm (.int (i % j)))
  | _, _, _ => False
def oPow : DO2
  | .int i, .int j, P => CPow i j ∧ P (.imm (.int (i ^ j.toNat)))
  | _, _, _ => False
def oAnd : DO2
  | .int i, .int j, P => P (.imm (.int (Builtin.bitAnd i j)))
  | _, _, _ => False
def oLt : DO2
  | .int i, .int j, P => P (.imm (.bl (decide (i < j))))
  | _, _, _ => False
def oLe : DO2
  | .int i, .int j, P => P (.imm (.bl (decide (i ≤ j))))
  | _, _, _ => False
def oGt : DO2
  | .int i, .int j, P => P (.imm (.bl (decide (j < i))))
  | _, _, _ => False
def oGe : DO2
  | .int i, .int j, P => P (.imm (.bl (decide (j ≤ i))))
  | _, _, _ => False
/-- == of data -/
def eqD (c d : D) : Bool := PyData.eqv (toPy c) (toPy d)
def okP (d : D) : Prop := okD 40 (toPy d) = true
def oEq : DO2
  | .int i, .int j, P => P (.imm (.bl (decide (i = j))))
  | .str i, .str j, P => P (.imm (.bl (decide (i = j))))
  | c, d, P => okP c ∧ okP d ∧ P (.imm (.bl (eqD c d)))
def oNe : DO2
  | .int i, .int j, P => P (.imm (.bl (!decide (i = j))))
  | .str i, .str j, P => P (.imm (.bl (!decide (i = j))))
  | c, d, P => okP c ∧ okP d ∧ P (.imm (.bl (!eqD c d)))
def isNon : D → Bool
  | .non => true
  | _ => false
def isBl (b : Bool) : D → Bool
  | .bl c => c == b
  | _ => false
def oIs : DO2
  | d, .non, P => P (.imm (.bl (isNon d)))
  | d, .bl b, P => P (.imm (.bl (isBl b d)))
  | _, _, _ => False
def oIsNot : DO2
  | d, .non, P => P (.imm (.bl (!isNon d)))
  | _, _, _ => False
def oIx : DO2
  | .ftp xs, .int i, P => ∃ j d, ixN xs.length i = some j ∧ xs[j]? = some d ∧ P (.imm d)
  | .fls xs, .int i, P => ∃ j d, ixN xs.length i = some j ∧ xs[j]? = some d ∧ P (.imm d)
  | .lst xs, .int i, P => ∃ j d, ixN xs.length i = some j ∧ xs[j]? = some d ∧ P (.imm d)
  | .tup xs, .int i, P => ∃ j d, ixN xs.length i = some j ∧ xs[j]? = some d ∧ P (.imm d)
  | .str z, .int i, P => z.length ≤ sizeLine ∧ ∃ c, atI z.cps.toList i = some c ∧ P (.imm (.str ⟨#[c]⟩))
  | _, _, _ => False
theorem OpR.or {X : Cx} {f : Value → Value → Sem Value} {r r' : R2} (h : OpR X f r) (h' : OpR X f r') : OpR X f (fun x y H Q => r x y H Q ∨ r' x y H Q) := fun pins s σ H x y v u Q I rx ry q => by
  rcases q with q | q
  · exact h pins s σ H x y v u Q I rx ry q
  · exact h' pins s σ H x y v u Q I rx ry q
def IxR.or {X : Cx} {r r' : R2} (h : IxR X r) (h' : IxR X r') : IxR X (fun x y H Q => r x y H Q ∨ r' x y H Q) := fun a b pins s σ H x y v u Q I rx ry q z => by
  rcases q with q | q
  · exact h a b pins s σ H x y v u Q I rx ry q z
  · exact h' a b pins s σ H x y v u Q I rx ry q z
section
variable {K : PySem.W.Frag}
theorem dop_I0 {g : Int → Int → V} {o : DO2} (h : ∀ c d P, o c d P → ∃ i j k, c = .int i ∧ d = .int j ∧ P (.imm k) ∧ ∀ I, Rep K I (g i j) k) : DOp K (rI0 g) o := fun I H x y c d P Q s v1 v2 q k => by
  obtain ⟨i, j, w, rfl, rfl, p, r⟩ := h c d P q
  exact ⟨i, j, v1.int, v2.int, k.imm s p (r I)⟩
theorem dop_I {C : Int → Int → Prop} {g : Int → Int → V} {o : DO2} (h : ∀ c d P, o c d P → ∃ i j k, c = .int i ∧ d = .int j ∧ C i j ∧ P (.imm k) ∧ ∀ I, Rep K I (g i j) k) : DOp K (rI C g) o := fun I H x y c d P Q s v1 v2 q k => by
  obtain ⟨i, j, w, rfl, rfl, hc, p, r⟩ := h c d P q
  exact ⟨i, j, v1.int, v2.int, hc, k.imm s p (r I)⟩
end
structure DOR (X : Cx) (f : Value → Value → Sem Value) (g : DO2) : Prop where
  ex : ∃ r, OpR X f r ∧ DOp X.K r g
section
variable {X : Cx}
theorem dor_sub : DOR X (binaryOp .Sub) oSub := ⟨_, op_sub, dop_I0 fun c d P h => by
  cases c <;> cases d <;> first | exact False.elim h | exact ⟨_, _, _, rfl, rfl, h, fun _ => .int _⟩⟩
theorem dor_mul : DOR X (binaryOp .Mult) oMul := ⟨_, op_mul.or op_mulW, fun I H x y c d P Q s v1 v2 h k => by
  cases c <;> cases d <;> first
    | exact False.elim h
    | (obtain ⟨hc, p⟩ := h
       rcases hc with hc | hc
       · exact .inl ⟨_, _, v1.int, v2.int, hc, k.imm s p (.int _)⟩
       · exact .inr ⟨_, _, v1.int, v2.int, hc, k.imm s p (.int _)⟩)⟩
theorem dor_div : DOR X (binaryOp .FloorDiv) oDiv := ⟨_, op_fdiv.or op_fdivW, fun I H x y c d P Q s v1 v2 h k => by
  cases c <;> cases d <;> first
    | exact False.elim h
    | (obtain ⟨⟨h0, hc⟩, p⟩ := h
       rcases hc with hc | hc
       · exact .inl ⟨_, _, v1.int, v2.int, ⟨h0, hc⟩, k.imm s p (.int _)⟩
       · exact .inr ⟨_, _, v1.int, v2.int, ⟨h0, hc⟩, k.imm s p (.int _)⟩)⟩
theorem dor_mod : DOR X (binaryOp .Mod) oMod := ⟨_, op_mod, dop_I fun c d P h => by
  cases c <;> cases d <;> first | exact False.elim h | exact ⟨_, _, _, rfl, rfl, h.1, h.2, fun _ => .int _⟩⟩
theorem dor_pow : DOR X (binaryOp .Pow) oPow := ⟨_, op_pow, dop_I fun c d P h => by
  cases c <;> cases d <;> first | exact False.elim h | exact ⟨_, _, _, rfl, rfl, h.1, h.2, fun _ => .int _⟩⟩
theorem dor_and : DOR X (binaryOp .BitAnd) oAnd := ⟨_, op_and, dop_I0 fun c d P h => by
  cases c <;> cases d <;> first | exact False.elim h | exact ⟨_, _, _, rfl, rfl, h, fun _ => .int _⟩⟩
theorem dor_lt : DOR X (compareOp .Lt) oLt := ⟨_, op_lt, dop_I0 fun c d P h => by
  cases c <;> cases d <;> first | exact False.elim h | exact ⟨_, _, _, rfl, rfl, h, fun _ => .bl _⟩⟩
theorem dor_le : DOR X (compareOp .LtE) oLe := ⟨_, op_le, dop_I0 fun c d P h => by
  cases c <;> cases d <;> first | exact False.elim h | exact ⟨_, _, _, rfl, rfl, h, fun _ => .bl _⟩⟩
theorem dor_gt : DOR X (compareOp .Gt) oGt := ⟨_, op_gt, dop_I0 fun c d P h => by
  cases c <;> cases d <;> first | exact False.elim h | exact ⟨_, _, _, rfl, rfl, h, fun _ => .bl _⟩⟩
theorem dor_ge : DOR X (compareOp .GtE) oGe := ⟨_, op_ge, dop_I0 fun c d P h => by
  cases c <;> cases d <;> first | exact False.elim h | exact ⟨_, _, _, rfl, rfl, h, fun _ => .bl _⟩⟩
end
/-! ### further operators -/
section
variable {X : Cx}
theorem DOp.or {K : PySem.W.Frag} {r r' : R2} {g g' o : DO2} (h : DOp K r g) (h' : DOp K r' g') (m : ∀ c d P, o c d P → g c d P ∨ g' c d P) : DOp K (fun x y H Q => r x y H Q ∨ r' x y H Q) o := fun I H x y c d P Q s v1 v2 q k => by
  rcases m c d P q with q | q
  · exact .inl (h I H x y c d P Q s v1 v2 q k)
  · exact .inr (h' I H x y c d P Q s v1 v2 q k)
theorem dor_add : DOR X (binaryOp .Add) oAdd := ⟨_, op_add.or (op_add_str.or (op_cat.or op_catT)), fun I H x y c d P Q s v1 v2 h k => by
  cases c <;> cases d <;> first
    | exact False.elim h
    | exact .inl ⟨_, _, v1.int, v2.int, k.imm s h (.int _)⟩
    | exact .inr (.inl ⟨_, _, v1.str, v2.str, h.1, k.imm s h.2 (.str _)⟩)
    | (obtain ⟨a, xs, rfl, h1, r1⟩ := v1.lst s
       obtain ⟨b, ys, rfl, h2, r2⟩ := v2.lst s
       exact .inr (.inr (.inl ⟨a, b, xs, ys, rfl, rfl, h1, h2, by rw [r1.len, r2.len]; exact h.1, k.lst s h.2 (r1.app r2)⟩)))⟩
theorem Rep.dpH {K : PySem.W.Frag} {I H : Hp} {x : V} {d : D} (s : Sub I H) (h : VwR K I H x d) (ok : okP d) : Dp K H x (toPy d) := by
  have go : ∀ {y e}, Rep K I y e → okP e → Dp K H y (toPy e) := fun r o => (r.mono s).dp o
  rcases h with h | ⟨a, rfl, h⟩
  · exact go h ok
  · cases d with
    | lst ds =>
      obtain ⟨xs, h, r⟩ := h
      have ok' : okD 40 (.list (toPys ds)) = true := ok
      rw [okD, Bool.and_eq_true] at ok'
      exact .lst (SqL.of h) ((r.mono s).dp ok'.2)
    | dic es => simp [okP, toPy, okD] at ok
    | dik es => simp [okP, toPy, okD] at ok
    | obj C es => simp [okP, toPy, okD] at ok
    | _ => exact False.elim h
theorem dec_vi {i j : Int} : decide (V.int i = V.int j) = decide (i = j) := decide_eq_decide.mpr (by simp)
theorem dec_vs {i j : Str} : decide (V.str i = V.str j) = decide (i = j) := decide_eq_decide.mpr (by simp)
theorem dor_eq (hu : X.A.units + 64 < cLine) : DOR X (compareOp .Eq) oEq := ⟨_, op_eq.or (op_eqD hu), fun I H x y c d P Q s v1 v2 h k => by
  have gen : okP c ∧ okP d ∧ P (.imm (.bl (eqD c d))) → rEqD X.K x y H Q := fun h =>
    ⟨toPy c, toPy d, Rep.dpH s v1 h.1, Rep.dpH s v2 h.2.1, okD_shaped h.1 (by decide), okD_shaped h.2.1 (by decide), k.imm s h.2.2 (.bl _)⟩
  unfold oEq at h
  split at h
  · rw [v1.int, v2.int]
    refine .inl ⟨rfl, k.imm s h ?_⟩
    rw [dec_vi]
    exact .bl _
  · rw [v1.str, v2.str]
    refine .inl ⟨rfl, k.imm s h ?_⟩
    rw [dec_vs]
    exact .bl _
  · exact .inr (gen h)⟩
theorem dor_ne (hu : X.A.units + 64 < cLine) : DOR X (compareOp .NotEq) oNe := ⟨_, op_ne.or (op_neD hu), fun I H x y c d P Q s v1 v2 h k => by
  have gen : okP c ∧ okP d ∧ P (.imm (.bl (!eqD c d))) → rNeD X.K x y H Q := fun h =>
    ⟨toPy c, toPy d, Rep.dpH s v1 h.1, Rep.dpH s v2 h.2.1, okD_shaped h.1 (by decide), okD_shaped h.2.1 (by decide), k.imm s h.2.2 (.bl _)⟩
  unfold oNe at h
  split at h
  · rw [v1.int, v2.int]
    refine .inl ⟨rfl, k.imm s h ?_⟩
    rw [dec_vi]
    exact .bl _
  · rw [v1.str, v2.str]
    refine .inl ⟨rfl, k.imm s h ?_⟩
    rw [dec_vs]
    exact .bl _
  · exact .inr (gen h)⟩
theorem VwR.isN {K : PySem.W.Frag} {I H : Hp} {x : V} {d : D} (v : VwR K I H x d) : decide (x = .non) = isNon d := by
  rcases v with h | ⟨a, rfl, h⟩
  · cases h <;> rfl
  · cases d <;> first | exact False.elim h | rfl
theorem VwR.isB {K : PySem.W.Frag} {I H : Hp} {x : V} {d : D} {b : Bool} (v : VwR K I H x d) : decide (x = .bl b) = isBl b d := by
  rcases v with h | ⟨a, rfl, h⟩
  · cases h <;> first
      | rfl
      | (rename_i c; cases c <;> cases b <;> rfl)
  · cases d <;> first | exact False.elim h | rfl
theorem dor_is : DOR X (compareOp .Is) oIs := ⟨_, o_isN.or o_isBool, fun I H x y c d P Q s v1 v2 h k => by
  cases d with
  | non =>
    rw [v2.non]
    refine .inl ⟨rfl, ?_⟩
    rw [v1.isN]
    exact k.imm s (by cases c <;> exact h) (.bl _)
  | bl b =>
    rw [v2.bl]
    refine .inr ⟨b, rfl, ?_⟩
    rw [v1.isB]
    exact k.imm s (by cases c <;> exact h) (.bl _)
  | _ => cases c <;> exact False.elim h⟩
theorem dor_isNot : DOR X (compareOp .IsNot) oIsNot := ⟨_, o_notN, fun I H x y c d P Q s v1 v2 h k => by
  cases d with
  | non =>
    rw [v2.non]
    refine ⟨rfl, ?_⟩
    rw [v1.isN]
    exact k.imm s (by cases c <;> exact h) (.bl _)
  | _ => cases c <;> exact False.elim h⟩
structure DIx (X : Cx) (g : DO2) : Prop where
  ex : ∃ r, IxR X r ∧ DOp X.K r g
theorem Reps.at_ {K : PySem.W.Frag} {I : Hp} {xs : List V} {ds : List D} {i : Int} {j : Nat} {d : D} (r : Reps K I xs ds) (hj : ixN ds.length i = some j) (hd : ds[j]? = some d) : ∃ x, atI xs i = some x ∧ Rep K I x d := by
  obtain ⟨x, h1, h2⟩ := r.get hd
  refine ⟨x, ?_, h2⟩
  unfold atI
  rw [r.len, hj]
  exact h1
theorem dix : DIx X oIx := ⟨_, ix_list.or (ix_tup.or ix_str), fun I H x y c d P Q s v1 v2 h k => by
  cases c <;> cases d <;> first
    | exact False.elim h
    | (obtain ⟨j, d, h1, h2, p⟩ := h
       obtain ⟨a, xs, rfl, h3, r⟩ := v1.lst s
       obtain ⟨x, e, rx⟩ := r.at_ h1 h2
       exact .inl ⟨a, xs, _, x, rfl, v2.int, SqL.of h3, e, k.imm s p rx⟩)
    | (obtain ⟨j, d, h1, h2, p⟩ := h
       obtain ⟨a, xs, rfl, h3, r⟩ := v1.fls s
       obtain ⟨x, e, rx⟩ := r.at_ h1 h2
       exact .inl ⟨a, xs, _, x, rfl, v2.int, h3, e, k.imm s p rx⟩)
    | (obtain ⟨j, d, h1, h2, p⟩ := h
       obtain ⟨a, xs, rfl, h3, r⟩ := v1.tup s
       obtain ⟨x, e, rx⟩ := r.at_ h1 h2
       exact .inr (.inl ⟨a, xs, _, x, rfl, v2.int, SqT.of h3, e, k.imm s p rx⟩))
    | (obtain ⟨j, d, h1, h2, p⟩ := h
       obtain ⟨a, xs, rfl, h3, r⟩ := v1.ftp s
       obtain ⟨x, e, rx⟩ := r.at_ h1 h2
       exact .inr (.inl ⟨a, xs, _, x, rfl, v2.int, h3, e, k.imm s p rx⟩))
    | (obtain ⟨hz, c, e, p⟩ := h
       exact .inr (.inr ⟨_, _, c, v1.str, v2.int, hz, e, k.imm s p (.str _)⟩))⟩
end
/-! ### expressions of operators; tests -/
structure DW (X : Cx) (F : Fr) (ex : Expr) (f : EvT) : Prop where
  ex : ∃ t, PW X ex t ∧ DTT F t f
def eTest (f : EvF) : EvT := fun e P => f e fun r e1 => ∃ b, val e1 r = some (.bl b) ∧ P b e1
def sAnd (f g : EvT) : EvT := fun e P => f e fun b e1 => if b = true then g e1 P else P false e1
def sOr (f g : EvT) : EvT := fun e P => f e fun b e1 => if b = true then P true e1 else g e1 P
def sNot (f : EvT) : EvT := fun e P => f e fun b e1 => P (!b) e1
def eAnd (f g : EvF) : EvF := fun e P => f e fun r e1 => ∃ b, val e1 r = some (.bl b) ∧ if b = true then g e1 P else P (.im (.bl false)) e1
def eOr (f g : EvF) : EvF := fun e P => f e fun r e1 => ∃ b, val e1 r = some (.bl b) ∧ if b = true then P (.im (.bl true)) e1 else g e1 P
def eNot (f : EvF) : EvF := fun e P => f e fun r e1 => ∃ b, val e1 r = some (.bl b) ∧ P (.im (.bl !b)) e1
def eIf (f : EvT) (g h : EvF) : EvF := fun e P => f e fun b e1 => if b = true then g e1 P else h e1 P
def eChain (o o' : DO2) (f1 f2 f3 : EvF) : EvF := fun e P => f1 e fun r1 e1 => f2 e1 fun r2 e2 => ∃ c d, val e2 r1 = some c ∧ val e2 r2 = some d ∧ o c d fun t => ∃ b, t = .imm (.bl b) ∧
  if b = true then f3 e2 fun r3 e3 => ∃ c d, val e3 r2 = some c ∧ val e3 r3 = some d ∧ o' c d fun t => P (.ent t) e3 else P (.im (.bl false)) e2
abbrev EvO := En → (Option Int → En → Prop) → Prop
def pNo : EvO := fun e P => P none e
def pSome (f : EvF) : EvO := fun e P => f e fun r e1 => ∃ i, val e1 r = some (.int i) ∧ P (some i) e1
def cutL {α : Type} (xs : List α) (lo hi : Option Int) : List α := (xs.drop (HT.sIx xs.length 0 lo)).take (HT.sIx xs.length xs.length hi - HT.sIx xs.length 0 lo)
/-- a slice, lo and hi -/
def oSl : D → Option Int → Option Int → (Ent → Prop) → Prop
  | .lst xs, lo, hi, P => ∀ a, P (.own a (.lst (cutL xs lo hi)))
  | .fls xs, lo, hi, P => ∀ a, P (.own a (.lst (cutL xs lo hi)))
  | .tup xs, lo, hi, P => P (.imm (.tup (cutL xs lo hi)))
  | .str z, lo, hi, P => z.length ≤ sizeLine ∧ P (.imm (.str (cutS z lo hi)))
  | _, _, _, _ => False
def eSl (f : EvF) (l h : EvO) : EvF := fun e P => f e fun r e1 => l e1 fun lo e2 => h e2 fun hi e3 => ∃ c, val e3 r = some c ∧ oSl c lo hi fun t => P (.ent t) e3
def DTO (F : Fr) (t : TO) (f : EvO) : Prop := ∀ (σ : L2.St) (I H : Hp) (e : En) (ps : Tm) (P : Option Int → En → Prop) (Q : Option Int → Hp → Prop), ST F σ I H e ps → f e P →
  (∀ b e' I' H', P b e' → ST F σ I' H' e' ps → Q b H') → t σ H Q
structure DO (X : Cx) (F : Fr) (ex : Option Expr) (f : EvO) : Prop where
  ex : ∃ t, PO X ex t ∧ DTO F t f
theorem Reps.cut {K : PySem.W.Frag} {I : Hp} {xs : List V} {ds : List D} {lo hi : Option Int} (r : Reps K I xs ds) : Reps K I (cutV xs lo hi) (cutL ds lo hi) := by
  unfold cutV cutL
  rw [r.len]
  exact (r.drop _).take _
def oFld (f : Str) (C : Addr) : DO1
  | .obj D fs, P => D = C ∧ ∃ d, fs.lookup f = some d ∧ P (.imm d)
  | _, _ => False
theorem Reps.look {K : PySem.W.Frag} {I : Hp} {f : Str} {d : D} : ∀ {fs : List (Str × V)} {es : List (Str × D)}, fs.map (·.1) = es.map (·.1) → Reps K I (fs.map (·.2)) (es.map (·.2)) → es.lookup f = some d → ∃ x, fs.lookup f = some x ∧ Rep K I x d
  | [], [], _, _, h => by cases h
  | [], _ :: _, m, _, _ => by cases m
  | _ :: _, [], m, _, _ => by cases m
  | (g, x) :: fs, (g', e) :: es, m, r, h => by
    rw [List.map_cons, List.map_cons] at m r
    injection m with m1 m2
    cases r with
    | cons r1 r2 =>
      have m1' : g = g' := m1
      subst m1'
      rw [List.lookup_cons] at h ⊢
      cases q : f == g with
      | true =>
        rw [q] at h
        cases h
        exact ⟨x, rfl, r1⟩
      | false =>
        rw [q] at h
        exact Reps.look m2 r2 h
section
variable {X : Cx} {F : Fr} {pos : Pos} {a b c : Expr} {f g h : EvF}
theorem DTT.of {t : TE} (d : DT F t f) : DTT F (fun σ H Q => t σ H fun x H1 => ∃ k, x = .bl k ∧ Q k H1) (eTest f) := fun σ I H e ps P Q s q k => by
  refine d σ I H e ps _ _ s q fun x r e1 I1 H1 h1 s1 => ?_
  obtain ⟨b, v, p⟩ := h1
  exact ⟨b, VwR.bl (s1.vw (qs := []) v), k b e1 I1 H1 p s1.weak⟩
theorem de_op {op : Operator} {o : DO2} (hr : DOR X (binaryOp op) o) (h1 : DE X F a f) (h2 : DE X F b g) (hK : F.K = X.K := by first | rfl | assumption) : DE X F (.BinOp a op b pos) (eOp o f g) := by
  obtain ⟨r, p, d⟩ := hr
  obtain ⟨t1, p1, d1⟩ := h1
  obtain ⟨t2, p2, d2⟩ := h2
  exact ⟨_, pe_op p p1 p2, DT.op (by rw [hK]; exact d) d1 d2⟩
theorem de_cmp {op : CmpOp} {o : DO2} (hr : DOR X (compareOp op) o) (h1 : DE X F a f) (h2 : DE X F b g) (hm : behindInMarks op b = false) (hK : F.K = X.K := by first | rfl | assumption) : DE X F (.Compare a [op] [b] pos) (eOp o f g) := by
  obtain ⟨r, p, d⟩ := hr
  obtain ⟨t1, p1, d1⟩ := h1
  obtain ⟨t2, p2, d2⟩ := h2
  exact ⟨_, pe_cmpR p p1 p2 hm, DT.op (by rw [hK]; exact d) d1 d2⟩
theorem dt_cmp {op : CmpOp} {o : DO2} (hr : DOR X (compareOp op) o) (h1 : DE X F a f) (h2 : DE X F b g) (hm : behindInMarks op b = false) (hK : F.K = X.K := by first | rfl | assumption) : DTe X F (.Compare a [op] [b] pos) (eTest (eOp o f g)) := by
  obtain ⟨r, p, d⟩ := hr
  obtain ⟨t1, p1, d1⟩ := h1
  obtain ⟨t2, p2, d2⟩ := h2
  exact ⟨_, pt_cmpR p p1 p2 hm, DTT.of (DT.op (by rw [hK]; exact d) d1 d2)⟩
theorem dt_val (h1 : DE X F a f) (he : ∀ whole, isTrue a X.env whole = (do let v ← whole; standAt a.pos; holding [v] (truthy v)) := by intro _; rfl) : DTe X F a (eTest f) := by
  obtain ⟨t1, p1, d1⟩ := h1
  exact ⟨_, pt_val p1 he, DTT.of d1⟩
theorem chainT {r r' : R2} {o o' : DO2} {ta tb tc : TE} (hr : DOp F.K r o) (hr' : DOp F.K r' o') (d1 : DT F ta f) (d2 : DT F tb g) (d3 : DT F tc h) : DT F (tChain r r' ta tb tc) (eChain o o' f g h) := fun σ I H e ps P Q s q k => by
  refine d1 σ I H e ps _ _ s q fun x r1 e1 I1 H1 h1 s1 => ?_
  refine d2 σ I1 H1 e1 _ _ _ s1 h1 fun y r2 e2 I2 H2 h2 s2 => ?_
  obtain ⟨c, d, v1, v2, q3⟩ := h2
  have s2' := s2
  rw [List.append_assoc] at s2'
  refine hr I2 H2 x y c d _ _ s2.sub (s2'.vw v1) (s2.vw (qs := []) v2) q3 fun z t I3 H3 p3 g3 r3 n3 => ?_
  obtain ⟨b, rfl, q4⟩ := p3
  obtain rfl : z = .bl b := by cases (show Rep F.K I3 z (.bl b) from r3); rfl
  refine ⟨b, rfl, ?_⟩
  have s3 := s2.grow g3
  cases b with
  | false => exact k _ _ e2 I3 H3 q4 (s3.weak.weak.pushI (.bl false))
  | true =>
    refine d3 σ I3 H3 e2 _ _ _ s3 q4 fun w r4 e4 I4 H4 h4 s4 => ?_
    obtain ⟨c', d', v3, v4, q5⟩ := h4
    have s4' := s4
    rw [List.append_assoc] at s4'
    exact hr' I4 H4 y w c' d' _ _ s4.sub (s4'.vw v3) (s4.vw (qs := []) v4) q5 fun z t I5 H5 p5 g5 r5 n5 => k z _ e4 I5 H5 p5 (s4.weak.weak.weak.pushG g5 r5 n5)
theorem de_chain {op op' : CmpOp} {o o' : DO2} (hr : DOR X (compareOp op) o) (hr' : DOR X (compareOp op') o') (h1 : DE X F a f) (h2 : DE X F b g) (h3 : DE X F c h) (hm : lastMarks [op, op'] [b, c] = false := by with_unfolding_all rfl) (hK : F.K = X.K := by first | rfl | assumption) :
    DE X F (.Compare a [op, op'] [b, c] pos) (eChain o o' f g h) := by
  obtain ⟨r, p, d⟩ := hr
  obtain ⟨r', p', d'⟩ := hr'
  obtain ⟨t1, p1, d1⟩ := h1
  obtain ⟨t2, p2, d2⟩ := h2
  obtain ⟨t3, p3, d3⟩ := h3
  exact ⟨_, pe_chain p p' p1 p2 p3 hm, chainT (by rw [hK]; exact d) (by rw [hK]; exact d') d1 d2 d3⟩
theorem dt_chain {op op' : CmpOp} {o o' : DO2} (hr : DOR X (compareOp op) o) (hr' : DOR X (compareOp op') o') (h1 : DE X F a f) (h2 : DE X F b g) (h3 : DE X F c h) (hm : lastMarks [op, op'] [b, c] = false := by with_unfolding_all rfl) (hK : F.K = X.K := by first | rfl | assumption) :
    DTe X F (.Compare a [op, op'] [b, c] pos) (eTest (eChain o o' f g h)) := by
  obtain ⟨r, p, d⟩ := hr
  obtain ⟨r', p', d'⟩ := hr'
  obtain ⟨t1, p1, d1⟩ := h1
  obtain ⟨t2, p2, d2⟩ := h2
  obtain ⟨t3, p3, d3⟩ := h3
  exact ⟨_, pt_chain p p' p1 p2 p3 hm, DTT.of (chainT (by rw [hK]; exact d) (by rw [hK]; exact d') d1 d2 d3)⟩
variable {tA tB : EvT} {rest : List Expr}
theorem dw_and1 (ha : DTe X F a tA) : DW X F (.BoolOp .And [a] pos) tA := by
  obtain ⟨t, p, d⟩ := ha
  exact ⟨t, pw_and1 p, d⟩
theorem dw_or1 (ha : DTe X F a tA) : DW X F (.BoolOp .Or [a] pos) tA := by
  obtain ⟨t, p, d⟩ := ha
  exact ⟨t, pw_or1 p, d⟩
theorem dw_and (ha : DTe X F a tA) (hb : DW X F (.BoolOp .And (b :: rest) pos) tB) : DW X F (.BoolOp .And (a :: b :: rest) pos) (sAnd tA tB) := by
  obtain ⟨t, p, d⟩ := ha
  obtain ⟨u, q, d'⟩ := hb
  refine ⟨_, pw_and p q, fun σ I H e ps P Q s h k => ?_⟩
  refine d σ I H e ps _ _ s h fun b e1 I1 H1 h1 s1 => ?_
  cases b with
  | true => exact d' σ I1 H1 e1 ps _ _ s1 h1 k
  | false => exact k false e1 I1 H1 h1 s1
theorem dw_or (ha : DTe X F a tA) (hb : DW X F (.BoolOp .Or (b :: rest) pos) tB) : DW X F (.BoolOp .Or (a :: b :: rest) pos) (sOr tA tB) := by
  obtain ⟨t, p, d⟩ := ha
  obtain ⟨u, q, d'⟩ := hb
  refine ⟨_, pw_or p q, fun σ I H e ps P Q s h k => ?_⟩
  refine d σ I H e ps _ _ s h fun b e1 I1 H1 h1 s1 => ?_
  cases b with
  | true => exact k true e1 I1 H1 h1 s1
  | false => exact d' σ I1 H1 e1 ps _ _ s1 h1 k
theorem dt_w (h : DW X F a tA) : DTe X F a tA := by
  obtain ⟨t, p, d⟩ := h
  exact ⟨t, p.pt, d⟩
theorem dt_not (h : DTe X F a tA) : DTe X F (.UnaryOp .Not a pos) (sNot tA) := by
  obtain ⟨t, p, d⟩ := h
  refine ⟨_, pt_not p, fun σ I H e ps P Q s h k => ?_⟩
  exact d σ I H e ps _ _ s h fun b e1 I1 H1 h1 s1 => k (!b) e1 I1 H1 h1 s1
theorem de_one {op} (h : DE X F a f) : DE X F (.BoolOp op [a] pos) f := by
  obtain ⟨t, p, d⟩ := h
  exact ⟨t, pe_one p, d⟩
theorem de_and (ha : DE X F a f) (hb : DE X F (.BoolOp .And (b :: rest) pos) g) : DE X F (.BoolOp .And (a :: b :: rest) pos) (eAnd f g) := by
  obtain ⟨t, p, d⟩ := ha
  obtain ⟨u, q, d'⟩ := hb
  refine ⟨_, pe_and p q, fun σ I H e ps P Q s h k => ?_⟩
  refine d σ I H e ps _ _ s h fun x r e1 I1 H1 h1 s1 => ?_
  obtain ⟨b, v, h2⟩ := h1
  refine ⟨b, VwR.bl (s1.vw (qs := []) v), ?_⟩
  cases b with
  | true => exact d' σ I1 H1 e1 ps _ _ s1.weak h2 k
  | false => exact k _ _ e1 I1 H1 h2 (s1.weak.pushI (.bl false))
theorem de_or (ha : DE X F a f) (hb : DE X F (.BoolOp .Or (b :: rest) pos) g) : DE X F (.BoolOp .Or (a :: b :: rest) pos) (eOr f g) := by
  obtain ⟨t, p, d⟩ := ha
  obtain ⟨u, q, d'⟩ := hb
  refine ⟨_, pe_or p q, fun σ I H e ps P Q s h k => ?_⟩
  refine d σ I H e ps _ _ s h fun x r e1 I1 H1 h1 s1 => ?_
  obtain ⟨b, v, h2⟩ := h1
  refine ⟨b, VwR.bl (s1.vw (qs := []) v), ?_⟩
  cases b with
  | true => exact k _ _ e1 I1 H1 h2 (s1.weak.pushI (.bl true))
  | false => exact d' σ I1 H1 e1 ps _ _ s1.weak h2 k
theorem de_not (ha : DE X F a f) : DE X F (.UnaryOp .Not a pos) (eNot f) := by
  obtain ⟨t, p, d⟩ := ha
  refine ⟨_, pe_not p, fun σ I H e ps P Q s h k => ?_⟩
  refine d σ I H e ps _ _ s h fun x r e1 I1 H1 h1 s1 => ?_
  obtain ⟨b, v, h2⟩ := h1
  exact ⟨b, VwR.bl (s1.vw (qs := []) v), k _ _ e1 I1 H1 h2 (s1.weak.pushI (.bl _))⟩
theorem de_if {cd : Expr} (hc : DTe X F cd tA) (ha : DE X F a f) (hb : DE X F b g) : DE X F (.IfExp cd a b pos) (eIf tA f g) := by
  obtain ⟨tc, pc, dc⟩ := hc
  obtain ⟨t, p, d⟩ := ha
  obtain ⟨u, q, d'⟩ := hb
  refine ⟨_, pe_ifExp pc p q, fun σ I H e ps P Q s h k => ?_⟩
  refine dc σ I H e ps _ _ s h fun b e1 I1 H1 h1 s1 => ?_
  cases b with
  | true => exact d σ I1 H1 e1 ps _ _ s1 h1 k
  | false => exact d' σ I1 H1 e1 ps _ _ s1 h1 k
theorem de_ix {o : DO2} (hr : DIx X o) (h1 : DE X F a f) (h2 : DE X F b g) (hs : PlainIx b := by exact (fun _ _ => rfl)) (hK : F.K = X.K := by first | rfl | assumption) : DE X F (.Subscript a b pos) (eOp o f g) := by
  obtain ⟨r, p, d⟩ := hr
  obtain ⟨t1, p1, d1⟩ := h1
  obtain ⟨t2, p2, d2⟩ := h2
  exact ⟨_, pe_ix p p1 p2 hs, DT.op (by rw [hK]; exact d) d1 d2⟩
theorem dx_no : DO X F none pNo := ⟨_, po_none, fun σ I H e ps P Q s h k => k none e I H h s⟩
theorem dx_some (h : DE X F a f) : DO X F (some a) (pSome f) := by
  obtain ⟨t, p, d⟩ := h
  refine ⟨_, po_some p, fun σ I H e ps P Q s h k => ?_⟩
  refine d σ I H e ps _ _ s h fun x r e1 I1 H1 h1 s1 => ?_
  obtain ⟨i, v, h2⟩ := h1
  exact ⟨i, VwR.int (s1.vw (qs := []) v), k _ e1 I1 H1 h2 s1.weak⟩
theorem de_sl {lo hi : Option Expr} {l u : EvO} {p2 : Pos} (h1 : DE X F a f) (hl : DO X F lo l) (hu : DO X F hi u) (hK : F.K = X.K := by first | rfl | assumption) : DE X F (.Subscript a (.Slice lo hi none p2) pos) (eSl f l u) := by
  obtain ⟨t1, p1, d1⟩ := h1
  obtain ⟨tl, pl, dl⟩ := hl
  obtain ⟨tu, pu, du⟩ := hu
  refine ⟨_, pe_slice (sl_list.or (sl_tupA.or sl_str)) p1 pl pu, fun σ I H e ps P Q s h k => ?_⟩
  refine d1 σ I H e ps _ _ s h fun x r e1 I1 H1 h1 s1 => ?_
  refine dl σ I1 H1 e1 _ _ _ s1 h1 fun lo' e2 I2 H2 h2 s2 => ?_
  refine du σ I2 H2 e2 _ _ _ s2 h2 fun hi' e3 I3 H3 h3 s3 => ?_
  obtain ⟨c, v, q⟩ := h3
  have vw := s3.vw (qs := []) v
  have kk : Lands F.K I3 H3 (fun t => P (.ent t) e3) Q := fun z t I4 H4 p4 g4 r4 n4 => k z _ e3 I4 H4 p4 (s3.weak.pushG g4 r4 n4)
  cases c with
  | lst ds =>
    obtain ⟨a', xs, rfl, q1, rr⟩ := vw.lst s3.sub
    exact .inl ⟨a', xs, rfl, SqL.of q1, kk.lst s3.sub q rr.cut⟩
  | fls ds =>
    obtain ⟨a', xs, rfl, q1, rr⟩ := vw.fls s3.sub
    exact .inl ⟨a', xs, rfl, by rw [← hK]; exact q1, kk.lst s3.sub q rr.cut⟩
  | tup ds =>
    obtain ⟨a', xs, rfl, q1, rr⟩ := vw.tup s3.sub
    refine .inr (.inl ⟨a', xs, rfl, SqT.of q1, fun hw => ?_, fun _ => kk.tup s3.sub q rr.cut⟩)
    have e1 : cutL ds lo' hi' = ds := by
      unfold cutL
      rw [← rr.len, hw.1, hw.2]
      simp [rr.len]
    rw [show oSl (.tup ds) lo' hi' (fun t => P (.ent t) e3) = P (.im (.tup (cutL ds lo' hi'))) e3 from rfl, e1] at q
    rcases vw with vw | ⟨_, _, vw⟩
    · exact kk.imm s3.sub q vw
    · exact False.elim vw
  | str z => exact .inr (.inr ⟨z, vw.str, q.1, kk.imm s3.sub q.2 (.str _)⟩)
  | _ => exact False.elim q
theorem de_fld {n : Str} {C : Addr} (h1 : DE X F a f) (hc : Cls X.K C) (hn : NoAttr X.K C n) (hb : attributeBase a n X.env (eval a X.env) = eval a X.env := by rfl) : DE X F (.Attribute a n pos) (eUn (oFld n C) f) := by
  obtain ⟨t1, p1, d1⟩ := h1
  refine ⟨_, pe_fld p1 hb, fun σ I H e ps P Q s h k => ?_⟩
  refine d1 σ I H e ps _ _ s h fun x r e1 I1 H1 h1 s1 => ?_
  obtain ⟨c, v, q⟩ := h1
  have vw := s1.vw (qs := []) v
  cases c with
  | obj C' fs =>
    obtain ⟨rfl, d, hl, p⟩ := q
    obtain ⟨o, dx, gs, rfl, ho, m, rr⟩ := vw.obj s1.sub
    obtain ⟨y, hy, ry⟩ := Reps.look m rr hl
    exact ⟨o, _, dx, gs, y, rfl, ho, hc, hn, hy, k y _ e1 I1 H1 p (s1.weak.pushI ry)⟩
  | _ => exact False.elim q
end
/-! ### promises over data; calls -/
abbrev Con := List Ent → (Ent → List Ent → Prop) → (Addr → D → List Ent → Prop) → Prop
def spD (K : PySem.W.Frag) (con : Con) : Sp := fun vs H Q E => ∃ (I : Hp) (es : List Ent) (P : Ent → List Ent → Prop) (PX : Addr → D → List Ent → Prop), Sub I H ∧ EnvR K I H (vs.map some) (es.map some) ∧ con es P PX ∧
  (∀ r es' x I' H', P r es' → Sub I' H' → EnvR K I' H' (vs.map some ++ [some x]) (es'.map some ++ [some r]) → Step (es.map some) I H (es'.map some ++ [some r]) I' H' → Q x H') ∧
  (∀ C d es' x dd I' H', PX C d es' → Sub I' H' → EnvR K I' H' (vs.map some) (es'.map some) → Step (es.map some) I H (es'.map some) I' H' → Rep K I' x d → H' dd = some (.xd [(("value" : Str), x)]) → E (.ref C) (some dd) H')
inductive Ag where
  | v (d : D) | r (i : Nat)
abbrev Ag.rv : Ag → Rv
  | .v d => .im d
  | .r i => .slot i
abbrev EvG := En → (List Ag → En → Prop) → Prop
def DTG (F : Fr) (t : TA) (f : EvG) : Prop := ∀ (σ : L2.St) (I H : Hp) (e : En) (ps : Tm) (P : List Ag → En → Prop) (Q : List V → Hp → Prop), ST F σ I H e ps → f e P →
  (∀ xs as e' I' H', P as e' → xs.length = as.length → ST F σ I' H' e' (ps ++ xs.zip (as.map Ag.rv)) → Q xs H') → t σ H Q
structure DG (X : Cx) (F : Fr) (es : List Expr) (f : EvG) : Prop where
  ex : ∃ t, PA X es t ∧ DTG F t f
def gaNil : EvG := fun e P => P [] e
def gaV (f : EvF) (g : EvG) : EvG := fun e P => f e fun r e1 => ∃ d e2, frz e1 r = some (d, e2) ∧ g e2 fun as e3 => P (.v d :: as) e3
def gaR (i : Nat) (g : EvG) : EvG := fun e P => (∃ t, e[i]? = some (some t)) ∧ g e fun as e1 => P (.r i :: as) e1
section
variable {X : Cx} {F : Fr}
theorem dg_nil : DG X F [] gaNil := ⟨_, pa_nil, fun σ I H e ps P Q s h k => k [] [] e I H h rfl (by simpa using s)⟩
theorem dg_v {ex : Expr} {es : List Expr} {f : EvF} {g : EvG} (h1 : DE X F ex f) (h2 : DG X F es g) (hs : starEach (ex :: es) X.env = (false, eval ex X.env) :: starEach es X.env := by rfl) : DG X F (ex :: es) (gaV f g) := by
  obtain ⟨t1, p1, d1⟩ := h1
  obtain ⟨t2, p2, d2⟩ := h2
  refine ⟨_, pa_cons p1 p2 hs, fun σ I H e ps P Q s h k => ?_⟩
  refine d1 σ I H e ps _ _ s h fun x r e1 I1 H1 h1 s1 => ?_
  obtain ⟨d, e2, hf, h2⟩ := h1
  obtain ⟨I2, l2, s2⟩ := s1.frz hf
  refine d2 σ I2 H1 e2 _ _ _ s2 h2 fun xs as e3 I3 H3 h3 hl s3 => ?_
  refine k (x :: xs) (.v d :: as) e3 I3 H3 h3 (by simp [hl]) ?_
  rw [List.map_cons, List.zip_cons_cons]
  rw [List.append_assoc] at s3
  exact s3
theorem dg_r {i : Nat} {x : Str} {pos : Pos} {es : List Expr} {g : EvG} (hN : X.N[i]? = some x) (hv : Vis X.env.scope x) (h2 : DG X F es g) (hd : (x == ("__debug__" : Str)) = false := by decide) (hcd : (x == ("__classdict__" : Str)) = false := by decide)
    (hs : starEach (.Name x pos :: es) X.env = (false, eval (.Name x pos) X.env) :: starEach es X.env := by rfl) : DG X F (.Name x pos :: es) (gaR i g) := by
  obtain ⟨t2, p2, d2⟩ := h2
  refine ⟨_, pa_cons (pe_var hN hv hd hcd) p2 hs, fun σ I H e ps P Q s h k => ?_⟩
  obtain ⟨⟨t, ht⟩, h⟩ := h
  obtain ⟨y, e1, e2⟩ := s.slot ht
  refine ⟨y, e1, ?_⟩
  refine d2 σ I H e _ _ _ (s.pushS e1 ht) h fun xs as e3 I3 H3 h3 hl s3 => ?_
  refine k (y :: xs) (.r i :: as) e3 I3 H3 h3 (by simp [hl]) ?_
  rw [List.map_cons, List.zip_cons_cons]
  rw [List.append_assoc] at s3
  exact s3
end
/-- what is handed over -/
def entOf (e : En) : Ag → Option Ent
  | .v d => some (.imm d)
  | .r i => match e[i]? with
    | some (some t) => some t
    | _ => none
def entsOf (e : En) : List Ag → Option (List Ent)
  | [] => some []
  | a :: as => match entOf e a with
    | some t => match entsOf e as with
      | some ts => some (t :: ts)
      | none => none
    | none => none
def refsOf : List Ag → List Nat
  | [] => []
  | .v _ :: as => refsOf as
  | .r i :: as => i :: refsOf as
def oneEach : List Nat → Bool
  | [] => true
  | i :: is => !is.contains i && oneEach is
def backTo' (e : En) : List Ag → List Ent → Option En
  | [], [] => some e
  | .v _ :: as, _ :: ts => backTo' e as ts
  | .r i :: as, t :: ts => (backTo' e as ts).map fun e1 => e1.set i (some t)
  | _, _ => none
theorem entsOf_len {e : En} : ∀ {as : List Ag} {ts : List Ent}, entsOf e as = some ts → ts.length = as.length
  | [], ts, h => by cases h; rfl
  | a :: as, ts, h => by
    unfold entsOf at h
    split at h
    · split at h
      · rename_i q
        cases h
        simp [entsOf_len q]
      · cases h
    · cases h
theorem entsOf_at {e : En} : ∀ {as : List Ag} {ts : List Ent} {k : Nat} {t : Ent}, entsOf e as = some ts → ts[k]? = some t → ∃ a, as[k]? = some a ∧ entOf e a = some t
  | [], ts, k, t, h, q => by cases h; simp at q
  | a :: as, ts, k, t, h, q => by
    unfold entsOf at h
    split at h
    · rename_i t0 h0
      split at h
      · rename_i ts' h1
        cases h
        cases k with
        | zero => simp at q; subst q; exact ⟨a, rfl, h0⟩
        | succ k =>
          obtain ⟨b, z1, z2⟩ := entsOf_at (k := k) h1 (by simpa using q)
          exact ⟨b, by simpa using z1, z2⟩
      · cases h
    · cases h
theorem mem_refs : ∀ {as : List Ag} {k i : Nat}, as[k]? = some (.r i) → i ∈ refsOf as
  | [], k, i, h => by simp at h
  | .v _ :: as, 0, i, h => by simp at h
  | .v _ :: as, k + 1, i, h => mem_refs (as := as) (k := k) (by simpa using h)
  | .r j :: as, 0, i, h => by
    simp at h
    subst h
    exact List.mem_cons_self
  | .r j :: as, k + 1, i, h => List.mem_cons_of_mem _ (mem_refs (as := as) (k := k) (by simpa using h))
theorem refs_one : ∀ {as : List Ag} {k l i : Nat}, oneEach (refsOf as) = true → as[k]? = some (.r i) → as[l]? = some (.r i) → k = l
  | [], k, l, i, _, h, _ => by simp at h
  | .v _ :: as, 0, l, i, _, h, _ => by simp at h
  | .v _ :: as, k + 1, 0, i, _, _, h => by simp at h
  | .v _ :: as, k + 1, l + 1, i, o, h, h' => by
    have z := refs_one (as := as) (k := k) (l := l) o (by simpa using h) (by simpa using h')
    omega
  | .r j :: as, 0, 0, i, _, _, _ => rfl
  | .r j :: as, 0, l + 1, i, o, h, h' => by
    simp at h
    subst h
    unfold refsOf oneEach at o
    rw [Bool.and_eq_true] at o
    have m := mem_refs (as := as) (k := l) (by simpa using h')
    rw [List.contains_iff_mem.mpr m] at o
    exact absurd o.1 (by decide)
  | .r j :: as, k + 1, 0, i, o, h', h => by
    simp at h
    subst h
    unfold refsOf oneEach at o
    rw [Bool.and_eq_true] at o
    have m := mem_refs (as := as) (k := k) (by simpa using h')
    rw [List.contains_iff_mem.mpr m] at o
    exact absurd o.1 (by decide)
  | .r j :: as, k + 1, l + 1, i, o, h, h' => by
    unfold refsOf oneEach at o
    rw [Bool.and_eq_true] at o
    have z := refs_one (as := as) (k := k) (l := l) o.2 (by simpa using h) (by simpa using h')
    omega
/-- what stands in a slot behind a call -/
theorem backTo_at : ∀ {e e2 : En} {as : List Ag} {ts : List Ent} {j : Nat} {t : Ent}, backTo' e as ts = some e2 → oneEach (refsOf as) = true → e2[j]? = some (some t) → (e[j]? = some (some t) ∧ j ∉ refsOf as) ∨ ∃ k : Nat, as[k]? = some (Ag.r j) ∧ ts[k]? = some t
  | e, e2, [], [], j, t, h, _, q => by cases h; exact .inl ⟨q, by simp [refsOf]⟩
  | e, e2, [], _ :: _, j, t, h, _, q => by simp [backTo'] at h
  | e, e2, .v _ :: as, [], j, t, h, _, q => by simp [backTo'] at h
  | e, e2, .r _ :: as, [], j, t, h, _, q => by simp [backTo'] at h
  | e, e2, .v _ :: as, u :: ts, j, t, h, o, q => by
    rcases backTo_at (as := as) (ts := ts) h o q with z | ⟨k, z1, z2⟩
    · exact .inl z
    · exact .inr ⟨k + 1, by simpa using z1, by simpa using z2⟩
  | e, e2, .r i :: as, u :: ts, j, t, h, o, q => by
    unfold backTo' at h
    cases hb : backTo' e as ts with
    | none => rw [hb] at h; cases h
    | some e1 =>
      rw [hb] at h
      cases h
      unfold refsOf oneEach at o
      rw [Bool.and_eq_true] at o
      by_cases hj : j = i
      · subst hj
        have hl := (List.getElem?_eq_some_iff.mp q).1
        rw [List.length_set] at hl
        rw [List.getElem?_set_self hl] at q
        cases q
        exact .inr ⟨0, rfl, rfl⟩
      · rw [List.getElem?_set_ne (Ne.symm hj)] at q
        rcases backTo_at (as := as) (ts := ts) hb o.2 q with ⟨z, n⟩ | ⟨k, z1, z2⟩
        · refine .inl ⟨z, ?_⟩
          unfold refsOf
          rw [List.mem_cons]
          rintro (w | w)
          · exact hj w
          · exact n w
        · exact .inr ⟨k + 1, by simpa using z1, by simpa using z2⟩
theorem backTo_len : ∀ {e e2 : En} {as : List Ag} {ts : List Ent}, backTo' e as ts = some e2 → e2.length = e.length
  | e, e2, [], [], h => by cases h; rfl
  | e, e2, [], _ :: _, h => by simp [backTo'] at h
  | e, e2, .v _ :: as, [], h => by simp [backTo'] at h
  | e, e2, .r _ :: as, [], h => by simp [backTo'] at h
  | e, e2, .v _ :: as, _ :: ts, h => backTo_len (as := as) (ts := ts) h
  | e, e2, .r i :: as, u :: ts, h => by
    unfold backTo' at h
    cases hb : backTo' e as ts with
    | none => rw [hb] at h; cases h
    | some e1 =>
      rw [hb] at h
      cases h
      rw [List.length_set, backTo_len hb]
theorem backTo_alive : ∀ {e e2 : En} {as : List Ag} {ts : List Ent} {j : Nat}, backTo' e as ts = some e2 → (∃ t, e[j]? = some (some t)) → ∃ t, e2[j]? = some (some t)
  | e, e2, [], [], j, h, q => by cases h; exact q
  | e, e2, [], _ :: _, j, h, q => by simp [backTo'] at h
  | e, e2, .v _ :: as, [], j, h, q => by simp [backTo'] at h
  | e, e2, .r _ :: as, [], j, h, q => by simp [backTo'] at h
  | e, e2, .v _ :: as, _ :: ts, j, h, q => backTo_alive (as := as) (ts := ts) h q
  | e, e2, .r i :: as, u :: ts, j, h, q => by
    unfold backTo' at h
    cases hb : backTo' e as ts with
    | none => rw [hb] at h; cases h
    | some e1 =>
      rw [hb] at h
      cases h
      exact alive_set (backTo_alive hb q)
section
variable {F : Fr} {σ : L2.St} {I H I' H' : Hp} {e e2 : En} {ps : Tm} {xs : List V} {as : List Ag} {es es' : List Ent}
theorem zip_at {α β : Type} : ∀ {xs : List α} {ys : List β} {k : Nat} {x : α} {y : β}, xs[k]? = some x → ys[k]? = some y → (xs.zip ys)[k]? = some (x, y)
  | [], _, k, x, y, h, _ => by simp at h
  | _ :: _, [], k, x, y, _, h => by simp at h
  | _ :: _, _ :: _, 0, x, y, h, h' => by simp at h h'; subst h; subst h'; rfl
  | _ :: xs, _ :: ys, k + 1, x, y, h, h' => by
    have := zip_at (xs := xs) (ys := ys) (k := k) (x := x) (y := y) (by simpa using h) (by simpa using h')
    simpa using this
theorem ST.temp? {k : Nat} {x : V} {r : Rv} {qs : Tm} (s : ST F σ I H e (ps ++ qs)) (h : qs[k]? = some (x, r)) : ∃ ps' qs', ps ++ qs = ps' ++ (x, r) :: qs' := by
  obtain ⟨hk, e1⟩ := List.getElem?_eq_some_iff.mp h
  refine ⟨ps ++ qs.take k, qs.drop (k + 1), ?_⟩
  rw [List.append_assoc, ← e1, ← List.drop_eq_getElem_cons hk, List.take_append_drop]
/-- what a callee gets -/
theorem ST.give (s : ST F σ I H e (ps ++ xs.zip (as.map Ag.rv))) (hl : xs.length = as.length) (h : entsOf e as = some es) (o : oneEach (refsOf as) = true) : EnvR F.K I H (xs.map some) (es.map some) where
  len := by rw [List.length_map, List.length_map, entsOf_len h, hl]
  at_ := fun k t q => by
    rw [List.getElem?_map] at q
    cases z : es[k]? with
    | none => rw [z] at q; cases q
    | some t' =>
      rw [z] at q
      cases q
      obtain ⟨a, ha, hb⟩ := entsOf_at h z
      have hk : k < xs.length := by rw [hl]; exact (List.getElem?_eq_some_iff.mp ha).1
      refine ⟨xs[k], by rw [List.getElem?_map, List.getElem?_eq_getElem hk]; rfl, ?_⟩
      have hz := zip_at (List.getElem?_eq_getElem hk) (show (as.map Ag.rv)[k]? = some a.rv by rw [List.getElem?_map, ha]; rfl)
      obtain ⟨ps', qs', e1⟩ := s.temp? hz
      rw [e1] at s
      cases a with
      | v d => cases hb; exact s.temp
      | r i =>
        have al := (s.ali (xs[k], .slot i) (by simp) i rfl).1
        unfold entOf at hb
        dsimp only at hb
        split at hb
        · rename_i t0 h0
          cases hb
          obtain ⟨y, q1, q2⟩ := s.slot h0
          rw [al] at q1
          cases q1
          exact q2
        · cases hb
  sep := fun k l t u a q1 q2 m1 m2 => by
    rw [List.getElem?_map] at q1 q2
    cases z1 : es[k]? with
    | none => rw [z1] at q1; cases q1
    | some t' =>
    cases z2 : es[l]? with
    | none => rw [z2] at q2; cases q2
    | some u' =>
    rw [z1] at q1
    rw [z2] at q2
    cases q1
    cases q2
    obtain ⟨b, b1, b2⟩ := entsOf_at h z1
    obtain ⟨c, c1, c2⟩ := entsOf_at h z2
    cases b with
    | v d => cases b2; simp at m1
    | r i =>
    cases c with
    | v d => cases c2; simp at m2
    | r j =>
      unfold entOf at b2 c2
      dsimp only at b2 c2
      split at b2
      · rename_i t0 h0
        cases b2
        split at c2
        · rename_i u0 h1
          cases c2
          have hi := (List.getElem?_eq_some_iff.mp h0).1
          have hj := (List.getElem?_eq_some_iff.mp h1).1
          have ij := s.env.sep i j t u a (by rw [List.getElem?_append_left hi]; exact h0) (by rw [List.getElem?_append_left hj]; exact h1) m1 m2
          subst ij
          exact refs_one o b1 c1
        · cases c2
      · cases b2
end
section
variable {F : Fr} {σ : L2.St} {I H I' H' : Hp} {e e2 : En} {ps : Tm} {xs : List V} {as : List Ag} {es es' : List Ent} {c : En}
theorem given_in (h : entsOf e as = some es) {a : Addr} (ha : a ∈ adr (es.map some)) : ∃ i t, i ∈ refsOf as ∧ e[i]? = some (some t) ∧ a ∈ t.adr := by
  obtain ⟨k, t, q, m⟩ := mem_adr.mp ha
  rw [List.getElem?_map] at q
  cases z : es[k]? with
  | none => rw [z] at q; cases q
  | some t' =>
    rw [z] at q
    cases q
    obtain ⟨b, b1, b2⟩ := entsOf_at h z
    cases b with
    | v d => cases b2; simp at m
    | r i =>
      unfold entOf at b2
      dsimp only at b2
      split at b2
      · rename_i t0 h0
        cases b2
        exact ⟨i, t, mem_refs b1, h0, m⟩
      · cases b2
theorem EntR.kept {K : PySem.W.Frag} {x : V} {t : Ent} (r : EntR K I H x t) (st : Step (es.map some) I H c I' H') (n : ∀ a ∈ t.adr, a ∉ adr (es.map some)) : EntR K I' H' x t :=
  r.mono st.imm fun a ha => by
    refine ⟨?_, fun o q => st.keep a o q (n a ha)⟩
    obtain ⟨⟨o, q1, qt⟩, q2⟩ := r.has ha
    cases z : I' a with
    | none => rfl
    | some u =>
      rcases st.new a u z with w | w | w
      · rw [q2] at w; cases w
      · exact absurd w (n a ha)
      · obtain ⟨xs, e⟩ := w o q1
        exact absurd e (qt xs)
/-- behind a call -/
theorem ST.took (s : ST F σ I H e (ps ++ xs.zip (as.map Ag.rv))) (hl : xs.length = as.length) (h : entsOf e as = some es) (o : oneEach (refsOf as) = true) (hb : backTo' e as es' = some e2) (sub : Sub I' H')
    (env : EnvR F.K I' H' (xs.map some) (es'.map some)) (st : Step (es.map some) I H c I' H') (hc : ∀ a, a ∈ adr (es'.map some) → a ∈ adr c) : ST F σ I' H' e2 ps := by
  have s0 : ST F σ I H e ps := s.weak
  have l2 := backTo_len hb
  -- what is not handed over stays
  have n1 : ∀ j u a, e[j]? = some (some u) → j ∉ refsOf as → a ∈ u.adr → a ∉ adr (es.map some) := fun j u a hj nj ha z => by
    obtain ⟨i, t, hi, ht, m⟩ := given_in h z
    have li := (List.getElem?_eq_some_iff.mp ht).1
    have lj := (List.getElem?_eq_some_iff.mp hj).1
    have ij := s0.env.sep i j t u a (by rw [List.getElem?_append_left li]; exact ht) (by rw [List.getElem?_append_left lj]; exact hj) m ha
    exact nj (ij ▸ hi)
  have n2 : ∀ j u a, e.length ≤ j → (e ++ tn ps)[j]? = some (some u) → a ∈ u.adr → a ∉ adr (es.map some) := fun j u a lj hj ha z => by
    obtain ⟨i, t, hi, ht, m⟩ := given_in h z
    have li := (List.getElem?_eq_some_iff.mp ht).1
    have ij := s0.env.sep i j t u a (by rw [List.getElem?_append_left li]; exact ht) hj m ha
    omega
  have at2 : ∀ j u, (e2 ++ tn ps)[j]? = some (some u) → (∃ y, (σ ++ tv ps)[j]? = some (some y) ∧ EntR F.K I' H' y u) ∧ ((∃ k : Nat, as[k]? = some (Ag.r j) ∧ es'[k]? = some u) ∨ ((e ++ tn ps)[j]? = some (some u) ∧ ∀ a ∈ u.adr, a ∉ adr (es.map some))) := fun j u q => by
    by_cases lj : j < e2.length
    · rw [List.getElem?_append_left lj] at q
      have lj' : j < σ.length := by rw [← s0.len, ← l2]; exact lj
      rcases backTo_at hb o q with ⟨z, nz⟩ | ⟨k, z1, z2⟩
      · obtain ⟨y, y1, y2⟩ := s0.slot z
        refine ⟨⟨y, by rw [List.getElem?_append_left lj']; exact y1, y2.kept st fun a ha => n1 j u a z nz ha⟩, .inr ⟨by rw [List.getElem?_append_left (by rw [← l2]; exact lj)]; exact z, fun a ha => n1 j u a z nz ha⟩⟩
      · have hk : k < xs.length := by rw [hl]; exact (List.getElem?_eq_some_iff.mp z1).1
        obtain ⟨y, y1, y2⟩ := env.at_ k u (by rw [List.getElem?_map, z2]; rfl)
        rw [List.getElem?_map, List.getElem?_eq_getElem hk] at y1
        cases y1
        have hz := zip_at (List.getElem?_eq_getElem hk) (show (as.map Ag.rv)[k]? = some (Rv.slot j) by rw [List.getElem?_map, z1]; rfl)
        obtain ⟨ps', qs', e1⟩ := s.temp? hz
        rw [e1] at s
        have al := (s.ali (xs[k], .slot j) (by simp) j rfl).1
        exact ⟨⟨_, by rw [List.getElem?_append_left lj']; exact al, y2⟩, .inl ⟨k, z1, z2⟩⟩
    · rw [List.getElem?_append_right (by omega)] at q
      have q' : (e ++ tn ps)[j]? = some (some u) := by rw [List.getElem?_append_right (by omega), ← l2]; exact q
      obtain ⟨y, y1, y2⟩ := s0.env.at_ j u q'
      have nn : ∀ a ∈ u.adr, a ∉ adr (es.map some) := fun a ha => n2 j u a (by omega) q' ha
      exact ⟨⟨y, y1, y2.kept st nn⟩, .inr ⟨q', nn⟩⟩
  have old : ∀ j u a, (e2 ++ tn ps)[j]? = some (some u) → a ∈ u.adr → ((∃ k : Nat, as[k]? = some (Ag.r j) ∧ es'[k]? = some u) → a ∈ adr (es.map some) ∨ H a = none) := fun j u a q ha ⟨k, z1, z2⟩ =>
    st.own a (hc a (mem_adr.mpr ⟨k, u, by rw [List.getElem?_map, z2]; rfl, ha⟩))
  have oldin : ∀ a, a ∈ adr (es.map some) → a ∈ adr (e ++ tn ps) := fun a ha => by
    obtain ⟨i, t, hi, ht, m⟩ := given_in h ha
    exact mem_adr.mpr ⟨i, t, by rw [List.getElem?_append_left (List.getElem?_eq_some_iff.mp ht).1]; exact ht, m⟩
  refine ⟨sub, by rw [l2, s0.len], ⟨?_, fun j u q => (at2 j u q).1, fun j k u v a q1 q2 m1 m2 => ?_⟩, fun p hp j w => ⟨(s0.ali p hp j w).1, backTo_alive hb (s0.ali p hp j w).2⟩, s0.base.trans ⟨st.imm, fun a ob q n => st.keep a ob q fun z => n (oldin a z), fun a ha => ?_, fun a ob q => ?_⟩⟩
  · rw [List.length_append, List.length_append, l2, s0.len]
    unfold tn tv
    rw [List.length_map, List.length_map]
  · rcases (at2 j u q1).2 with ⟨k1, z1, z2⟩ | ⟨z1, z2⟩ <;> rcases (at2 k v q2).2 with ⟨k2, w1, w2⟩ | ⟨w1, w2⟩
    · have kk := env.sep k1 k2 u v a (by rw [List.getElem?_map, z2]; rfl) (by rw [List.getElem?_map, w2]; rfl) m1 m2
      subst kk
      rw [z1] at w1
      cases w1
      rfl
    · exfalso
      obtain ⟨⟨ob, hx, _⟩, _⟩ := s0.env.has (mem_adr.mpr ⟨k, v, w1, m2⟩)
      rcases old j u a q1 m1 ⟨k1, z1, z2⟩ with z | z
      · exact w2 a m2 z
      · rw [hx] at z; cases z
    · exfalso
      obtain ⟨⟨ob, hx, _⟩, _⟩ := s0.env.has (mem_adr.mpr ⟨j, u, z1, m1⟩)
      rcases old k v a q2 m2 ⟨k2, w1, w2⟩ with z | z
      · exact z2 a m1 z
      · rw [hx] at z; cases z
    · exact s0.env.sep j k u v a z1 w1 m1 m2
  · obtain ⟨j, u, q, m⟩ := mem_adr.mp ha
    rcases (at2 j u q).2 with z | ⟨z1, z2⟩
    · rcases old j u a q m z with w | w
      · exact .inl (oldin a w)
      · exact .inr w
    · exact .inl (mem_adr.mpr ⟨j, u, z1, m⟩)
  · rcases st.new a ob q with w | w | w
    · exact .inl w
    · exact .inr (.inl (oldin a w))
    · exact .inr (.inr w)
theorem ST.tookR {x : V} {t : Ent} (s : ST F σ I H e (ps ++ xs.zip (as.map Ag.rv))) (hl : xs.length = as.length) (h : entsOf e as = some es) (o : oneEach (refsOf as) = true) (hb : backTo' e as es' = some e2) (sub : Sub I' H')
    (env : EnvR F.K I' H' (xs.map some ++ [some x]) (es'.map some ++ [some t])) (hes : es'.length = es.length) (st : Step (es.map some) I H (es'.map some ++ [some t]) I' H') : ST F σ I' H' e2 (ps ++ [(x, .ent t)]) := by
  have lx : (es'.map some).length = (xs.map (some : V → Option V)).length := by rw [List.length_map, List.length_map, hes, entsOf_len h, hl]
  have s2 := s.took hl h o hb sub (EnvR.pre lx env) st fun a ha => by rw [adr_app]; exact List.mem_append_left _ ha
  have s0 : ST F σ I H e ps := s.weak
  have r : EntR F.K I' H' x t := by
    obtain ⟨y, y1, y2⟩ := env.at_ (es'.map some).length t (by rw [List.getElem?_append_right (Nat.le_refl _), Nat.sub_self]; rfl)
    rw [lx, List.getElem?_append_right (Nat.le_refl _), Nat.sub_self] at y1
    cases y1
    exact y2
  have frm : ∀ a ∈ t.adr, a ∈ adr (es.map some) ∨ H a = none := fun a ha => st.own a (mem_push.mpr (.inr ⟨t, rfl, ha⟩))
  refine s2.pushE r fun a ha => ⟨fun z => ?_, ?_⟩
  · obtain ⟨j, u, q, m⟩ := mem_adr.mp z
    have lj2 := backTo_len hb
    by_cases lj : j < e2.length
    · rw [List.getElem?_append_left lj] at q
      rcases backTo_at hb o q with ⟨w, nw⟩ | ⟨k, w1, w2⟩
      · obtain ⟨⟨ob, hx, _⟩, _⟩ := s0.env.has (mem_adr.mpr ⟨j, u, by rw [List.getElem?_append_left (by omega)]; exact w, m⟩)
        rcases frm a ha with y | y
        · obtain ⟨i, t', hi, ht, m'⟩ := given_in h y
          have ij := s0.env.sep i j t' u a (by rw [List.getElem?_append_left (List.getElem?_eq_some_iff.mp ht).1]; exact ht) (by rw [List.getElem?_append_left (by omega)]; exact w) m' m
          exact nw (ij ▸ hi)
        · rw [hx] at y; cases y
      · have kl : k < (es'.map some).length := by rw [List.length_map]; exact (List.getElem?_eq_some_iff.mp w2).1
        have kk := env.sep k (es'.map some).length u t a (by rw [List.getElem?_append_left kl, List.getElem?_map, w2]; rfl) (by rw [List.getElem?_append_right (Nat.le_refl _), Nat.sub_self]; rfl) m ha
        omega
    · rw [List.getElem?_append_right (by omega)] at q
      have q' : (e ++ tn ps)[j]? = some (some u) := by rw [List.getElem?_append_right (by omega), ← lj2]; exact q
      obtain ⟨⟨ob, hx, _⟩, _⟩ := s0.env.has (mem_adr.mpr ⟨j, u, q', m⟩)
      rcases frm a ha with y | y
      · obtain ⟨i, t', hi, ht, m'⟩ := given_in h y
        have ij := s0.env.sep i j t' u a (by rw [List.getElem?_append_left (List.getElem?_eq_some_iff.mp ht).1]; exact ht) q' m' m
        have := (List.getElem?_eq_some_iff.mp ht).1
        omega
      · rw [hx] at y; cases y
  · rcases frm a ha with y | y
    · obtain ⟨i, t', hi, ht, m'⟩ := given_in h y
      exact s0.base.own a (mem_adr.mpr ⟨i, t', by rw [List.getElem?_append_left (List.getElem?_eq_some_iff.mp ht).1]; exact ht, m'⟩)
    · exact s0.base.free y
end
/-- what a frame wants of an exception is what it says over data -/
def FrOk (F : Fr) : Prop := ∀ (σ : L2.St) (I H : Hp) (e : En) (ps : Tm) (C : Addr) (d : D) (x : V) (dd : Addr), ST F σ I H e ps → F.PX C d e → Rep F.K I x d → H dd = some (.xd [(("value" : Str), x)]) → F.W (.ref C) (some dd) σ H
def eCall (PX : Addr → D → En → Prop) (con : Con) (g : EvG) : EvF := fun e P => g e fun as e1 => ∃ es, entsOf e1 as = some es ∧ oneEach (refsOf as) = true ∧
  con es (fun t es' => es'.length = es.length ∧ ∃ e2, backTo' e1 as es' = some e2 ∧ P (.ent t) e2) (fun C d es' => ∃ e2, backTo' e1 as es' = some e2 ∧ PX C d e2)
section
variable {X : Cx} {F : Fr} {k : Nat} {f : Addr} {fd : FuncData} {pn : List Str} {con : Con} {x : Str} {p pos : Pos} {ex : Expr} {exs : List Expr} {g : EvG}
theorem DT.call {t : TA} (fo : FrOk F) (d : DTG F t g) : DT F (tCallS (spD F.K con) (WE F.W) t) (eCall F.PX con g) := fun σ I H e ps P Q s h k => by
  refine d σ I H e ps _ _ s h fun xs as e1 I1 H1 h1 hl s1 => ?_
  obtain ⟨es, he, o, hc⟩ := h1
  refine ⟨I1, es, _, _, s1.sub, s1.give hl he o, hc, fun r es' x I2 H2 hp sub2 env2 st2 => ?_, fun C d es' x dd I2 H2 hp sub2 env2 st2 rx hx => ?_⟩
  · obtain ⟨hes, e2, hb, hp⟩ := hp
    exact k x _ e2 I2 H2 hp (s1.tookR hl he o hb sub2 env2 hes st2)
  · obtain ⟨e2, hb, hp⟩ := hp
    exact fo σ I2 H2 e2 ps C d x dd (s1.took hl he o hb sub2 env2 st2 fun _ z => z) hp rx hx
theorem de_call (G : FnOk X.prog X.w X.K X.mg X.base (L2.CX X.prog X.w) k f fd pn (spD X.K con)) (hr : Room k X.A) (hg : Gl X x) (hm : X.mg x = some (.ref f)) (hk : PySem.W.keepIn X.K (.ref f) = true) (hb : Binds X.K fd pn []) (tk : Takes X F.W) (fo : FrOk F) (ha : DG X F (ex :: exs) g)
    (hK : F.K = X.K := by first | rfl | assumption) (hdb : (x == ("__debug__" : Str)) = false := by decide) (he : starEach (ex :: exs) X.env = (false, eval ex X.env) :: starEach exs X.env := by rfl) (hpl : (backTo pos (starEach exs X.env)).any (·.1) = false := by rfl) :
    DE X F (.Call (.Name x p) (ex :: exs) [] pos) (eCall F.PX con g) := by
  obtain ⟨t, pa, d⟩ := ha
  refine ⟨_, pe_callS G hr hg hm hk hb (fun σ => passAt tk σ) pa hdb he hpl, ?_⟩
  have z := DT.call (con := con) fo d
  rw [hK] at z
  exact z
end
/-! ### statements -/
structure Ed where
  nx : En → Prop
  rt : Rv → En → Prop
  bk : En → Prop := fun _ => False
  ct : En → Prop := fun _ => False
abbrev SvF := En → Ed → Prop
/-- no slot of the frame is held -/
def Imms (ps : Tm) : Prop := ∀ p ∈ ps, ∃ d, p.2 = Rv.ent (.imm d)
/-- .. none of these slots -/
def NoSl (sl : List Nat) (ps : Tm) : Prop := ∀ p ∈ ps, ∀ j, p.2 = Rv.slot j → j ∉ sl
theorem Imms.no {ps : Tm} (h : Imms ps) (sl : List Nat) : NoSl sl ps := fun p hp j q => by
  obtain ⟨t, ht⟩ := h p hp
  rw [ht] at q
  cases q
structure EdR (F : Fr) (ps : Tm) (d : Ed) (D : Ends) : Prop where
  nx : ∀ σ' I' H' e', d.nx e' → ST F σ' I' H' e' ps → D.nx σ' H'
  rt : ∀ x r σ' I' H' e', d.rt r e' → ST F σ' I' H' e' (ps ++ [(x, r)]) → D.rt x H'
  bk : ∀ σ' I' H' e', d.bk e' → ST F σ' I' H' e' ps → D.bk σ' H'
  ct : ∀ σ' I' H' e', d.ct e' → ST F σ' I' H' e' ps → D.ct σ' H'
def DTS (F : Fr) (t : TS) (g : SvF) : Prop := ∀ (σ : L2.St) (I H : Hp) (e : En) (ps : Tm) (d : Ed) (D : Ends), Imms ps → ST F σ I H e ps → g e d → EdR F ps d D → t D σ H
structure DS (X : Cx) (F : Fr) (st : Stmt) (g : SvF) : Prop where
  ex : ∃ t, PS X st t ∧ DTS F t g
structure DSs (X : Cx) (F : Fr) (st : List Stmt) (g : SvF) : Prop where
  ex : ∃ t, PSs X st t ∧ DTS F t g
def asg (e : En) (i : Nat) (r : Rv) : Option En := match e[i]? with
  | none => none
  | some _ => match r with
    | .ent t => some (e.set i (some t))
    | .slot j => match frz e (.slot j) with
      | some (d, e1) => some (e1.set i (some (.imm d)))
      | none => none
def mov (e : En) : Rv → Option (Ent × En)
  | .ent t => some (t, e)
  | .slot i => match e[i]? with
    | some (some (.imm d)) => some (.imm d, e)
    | some (some (.own a d)) => some (.own a d, e.set i none)
    | _ => none
section
variable {F : Fr} {σ : L2.St} {I H I' H' : Hp} {e e' : En} {ps qs : Tm} {i : Nat} {x : V}
theorem ST.asgE {t : Ent} (s : ST F σ I H e (ps ++ [(x, .ent t)])) (hps : NoSl [i] ps) (hi : i < e.length) : ST F (σ.set i (some x)) I H (e.set i (some t)) ps := by
  have s0 : ST F σ I H e ps := s.weak
  have r : EntR F.K I H x t := ST.temp (qs := []) s
  have lst := tm_at (ps := ps) (qs := []) (x := x) (r := .ent t) s.len
  have hlen : (e ++ tn ps).length = σ.length + ps.length := by
    rw [List.length_append, s.len]
    unfold tn
    rw [List.length_map]
  refine ⟨s.sub, by rw [List.length_set, List.length_set, s.len], ?_, fun p hp j q => ?_, ?_⟩
  · have z := s0.env.set (i := i) (x := x) (t := t) (by rw [List.length_append]; omega) r fun a ha j u hj hu m => by
      have lj := (List.getElem?_eq_some_iff.mp hu).1
      have z := s.env.sep j (σ.length + ps.length) u t a (by rw [tn_app, ← List.append_assoc, List.getElem?_append_left lj]; exact hu) lst.2 m ha
      omega
    rw [List.set_append_left _ _ (by rw [← s.len]; exact hi), List.set_append_left _ _ hi] at z
    exact z
  · have hj : j ≠ i := fun z => hps p hp j q (by simp [z])
    rw [List.getElem?_set_ne (Ne.symm hj)]
    exact ⟨(s0.ali p hp j q).1, alive_set (s0.ali p hp j q).2⟩
  · have b := s.base
    refine ⟨b.imm, b.keep, fun a ha => b.own a ?_, b.new⟩
    obtain ⟨j, u, q, m⟩ := mem_adr.mp ha
    rw [← List.set_append_left _ _ hi] at q
    by_cases hj : j = i
    · subst hj
      have l1 := (List.getElem?_eq_some_iff.mp q).1
      rw [List.length_set] at l1
      rw [List.getElem?_set_self l1] at q
      cases q
      exact mem_adr.mpr ⟨_, t, lst.2, m⟩
    · rw [List.getElem?_set_ne (Ne.symm hj)] at q
      have lj := (List.getElem?_eq_some_iff.mp q).1
      exact mem_adr.mpr ⟨j, u, by rw [tn_app, ← List.append_assoc, List.getElem?_append_left lj]; exact q, m⟩
theorem frz_len {e e1 : En} {r : Rv} {d : D} (h : frz e r = some (d, e1)) : e1.length = e.length := by
  cases r with
  | ent t => cases t <;> cases h <;> rfl
  | slot i =>
    unfold TK.frz at h
    dsimp only at h
    split at h
    · cases h; rfl
    · cases h; rw [List.length_set]
    · cases h
theorem ST.asg {r : Rv} (s : ST F σ I H e (ps ++ [(x, r)])) (hps : NoSl [i] ps) (h : asg e i r = some e') : ∃ I', ST F (σ.set i (some x)) I' H e' ps := by
  unfold TK.asg at h
  split at h
  · cases h
  · rename_i o q
    have hi := (List.getElem?_eq_some_iff.mp q).1
    cases r with
    | ent t => cases h; exact ⟨I, s.asgE hps hi⟩
    | slot j =>
      dsimp only at h
      split at h
      · rename_i d e1 hf
        cases h
        obtain ⟨I1, _, s1⟩ := s.frz hf
        exact ⟨I1, s1.asgE hps (by rw [frz_len hf]; exact hi)⟩
      · cases h
/-- an own thing is changed -/
theorem ST.mut {a : Addr} {d d' : D} {o : HO} (s : ST F σ I H e ps) (q : e[i]? = some (some (.own a d))) (w : OwnR F.K I (upd H a o) a d') : ST F σ I (upd H a o) (e.set i (some (.own a d'))) ps := by
  have hi := (List.getElem?_eq_some_iff.mp q).1
  obtain ⟨y, y1, y2, n, y3⟩ := s.slot q
  have qc : (e ++ tn ps)[i]? = some (some (.own a d)) := by rw [List.getElem?_append_left hi]; exact q
  have ain : a ∈ adr (e ++ tn ps) := mem_adr.mpr ⟨i, _, qc, by simp⟩
  have ec : (e ++ tn ps).set i (some (.own a d')) = e.set i (some (.own a d')) ++ tn ps := List.set_append_left _ _ hi
  have sub_adr : ∀ b, b ∈ adr (e.set i (some (.own a d')) ++ tn ps) → b ∈ adr (e ++ tn ps) := fun b hb => by
    obtain ⟨j, u, z, m⟩ := mem_adr.mp hb
    rw [← ec] at z
    by_cases hj : j = i
    · subst hj
      have l1 := (List.getElem?_eq_some_iff.mp z).1
      rw [List.length_set] at l1
      rw [List.getElem?_set_self l1] at z
      cases z
      simp at m
      subst m
      exact ain
    · rw [List.getElem?_set_ne (Ne.symm hj)] at z
      exact mem_adr.mpr ⟨j, u, z, m⟩
  refine ⟨fun b u z => ?_, by rw [List.length_set]; exact s.len, ⟨?_, fun j u z => ?_, fun j k u v b z1 z2 m1 m2 => ?_⟩, fun p hp j w => ⟨(s.ali p hp j w).1, alive_set (s.ali p hp j w).2⟩, s.base.trans ⟨Le.refl, fun b u z nb => ?_, fun b hb => .inl (sub_adr b hb), fun b u z => .inl z⟩⟩
  · have hb : b ≠ a := fun w => by rw [w, n] at z; cases z
    rw [upd_ne hb]
    exact s.sub b u z
  · have l := s.env.len
    rw [← ec, List.length_set]
    exact l
  · rw [← ec] at z
    by_cases hj : j = i
    · subst hj
      have l1 := (List.getElem?_eq_some_iff.mp z).1
      rw [List.length_set] at l1
      rw [List.getElem?_set_self l1] at z
      cases z
      have hjs : j < σ.length := by rw [← s.len]; exact hi
      exact ⟨y, by rw [List.getElem?_append_left hjs]; exact y1, y2, n, w⟩
    · rw [List.getElem?_set_ne (Ne.symm hj)] at z
      obtain ⟨y', e1, e2⟩ := s.env.at_ j u z
      refine ⟨y', e1, e2.mono Le.refl fun b hb => ⟨(e2.has hb).2, fun v hv => ?_⟩⟩
      have hba : b ≠ a := fun w => by
        subst w
        exact hj (s.env.sep j i u _ b z qc hb (by simp))
      rw [upd_ne hba]
      exact hv
  · rw [← ec] at z1 z2
    have go : ∀ {j : Nat} {u : Ent}, ((e ++ tn ps).set i (some (Ent.own a d')))[j]? = some (some u) → b ∈ u.adr → ∃ u' : Ent, (e ++ tn ps)[j]? = some (some u') ∧ b ∈ u'.adr := fun {j u} z m => by
      by_cases hj : j = i
      · subst hj
        have l1 := (List.getElem?_eq_some_iff.mp z).1
        rw [List.length_set] at l1
        rw [List.getElem?_set_self l1] at z
        cases z
        exact ⟨_, qc, m⟩
      · rw [List.getElem?_set_ne (Ne.symm hj)] at z
        exact ⟨u, z, m⟩
    obtain ⟨u', w1, w2⟩ := go z1 m1
    obtain ⟨v', w3, w4⟩ := go z2 m2
    exact s.env.sep j k u' v' b w1 w3 w2 w4
  · have hb : b ≠ a := fun w => nb (w ▸ ain)
    rw [upd_ne hb]
    exact z
end
/-! ### rules of statements -/
def sNext : SvF := fun e d => d.nx e
def sSeq (f g : SvF) : SvF := fun e d => f e { d with nx := fun e1 => g e1 d }
def sCut (f g : SvF) : SvF := fun e d => ∃ J : En → Prop, f e { d with nx := J } ∧ ∀ e1, J e1 → g e1 d
def sSet (i : Nat) (f : EvF) : SvF := fun e d => f e fun r e1 => ∃ e2, asg e1 i r = some e2 ∧ d.nx e2
def sDrop (f : EvF) : SvF := fun e d => f e fun _ e1 => d.nx e1
def sRet (f : EvF) : SvF := fun e d => f e d.rt
def sRetN : SvF := fun e d => d.rt (.im .non) e
def sIf (c : EvT) (f g : SvF) : SvF := fun e d => c e fun b e1 => if b = true then f e1 d else g e1 d
def sBrk : SvF := fun e d => d.bk e
def sCnt : SvF := fun e d => d.ct e
def sNever : SvF := fun _ _ => False
section
variable {X : Cx} {F : Fr} {st : Stmt} {rest : List Stmt} {f g : SvF} {ex : Expr} {fe : EvF} {pos : Pos}
theorem dss_nil : DSs X F [] sNext := ⟨_, pss_nil, fun σ I H e ps d D _ s h k => k.nx σ I H e h s⟩
theorem dss_cons (h1 : DS X F st f) (h2 : DSs X F rest g) : DSs X F (st :: rest) (sSeq f g) := by
  obtain ⟨t1, p1, d1⟩ := h1
  obtain ⟨t2, p2, d2⟩ := h2
  exact ⟨_, pss_cons p1 p2, fun σ I H e ps d D hp s h k => d1 σ I H e ps _ _ hp s h ⟨fun σ' I' H' e' h' s' => d2 σ' I' H' e' ps d D hp s' h' k, k.rt, k.bk, k.ct⟩⟩
theorem dss_cut (h1 : DS X F st f) (h2 : DSs X F rest g) : DSs X F (st :: rest) (sCut f g) := by
  obtain ⟨t1, p1, d1⟩ := h1
  obtain ⟨t2, p2, d2⟩ := h2
  exact ⟨_, pss_cons p1 p2, fun σ I H e ps d D hp s ⟨J, h, hj⟩ k => d1 σ I H e ps { d with nx := J } _ hp s h ⟨fun σ' I' H' e' h' s' => d2 σ' I' H' e' ps d D hp s' (hj e' h') k, k.rt, k.bk, k.ct⟩⟩
theorem dss_one (h1 : DS X F st f) : DSs X F [st] f := by
  obtain ⟨t1, p1, d1⟩ := h1
  exact ⟨_, pss_one p1, d1⟩
theorem ds_pass : DS X F (.Pass pos) sNext := ⟨_, ps_pass, fun σ I H e ps d D _ s h k => k.nx σ I H e h s⟩
theorem ds_break : DS X F (.Break pos) sBrk := ⟨_, ps_break, fun σ I H e ps d D _ s h k => k.bk σ I H e h s⟩
theorem ds_continue : DS X F (.Continue pos) sCnt := ⟨_, ps_continue, fun σ I H e ps d D _ s h k => k.ct σ I H e h s⟩
theorem ds_doc {x j pos'} : DS X F (.Expr (.Constant (.str x) j pos) pos') sNext := ⟨_, ps_doc, fun σ I H e ps d D _ s h k => k.nx σ I H e h s⟩
theorem ds_expr (h1 : DE X F ex fe) (hs : swapsWith ex none pos.line X.env = pure false := by rfl) : DS X F (.Expr ex pos) (sDrop fe) := by
  obtain ⟨t1, p1, d1⟩ := h1
  exact ⟨_, ps_expr p1 hs, fun σ I H e ps d D _ s h k => d1 σ I H e ps _ _ s h fun x r e1 I1 H1 h1 s1 => k.nx σ I1 H1 e1 h1 s1.weak⟩
theorem ds_ret (h1 : DE X F ex fe) : DS X F (.Return (some ex) pos) (sRet fe) := by
  obtain ⟨t1, p1, d1⟩ := h1
  exact ⟨_, ps_ret p1, fun σ I H e ps d D _ s h k => d1 σ I H e ps _ _ s h fun x r e1 I1 H1 h1 s1 => k.rt x r σ I1 H1 e1 h1 s1⟩
theorem ds_retN : DS X F (.Return none pos) sRetN := ⟨_, ps_retN, fun σ I H e ps d D _ s h k => k.rt .non _ σ I H e h (s.pushI .non)⟩
theorem ds_if {c : Expr} {a b : List Stmt} {tc : EvT} (hc : DTe X F c tc) (ha : DSs X F a f) (hb : DSs X F b g) : DS X F (.If c a b pos) (sIf tc f g) := by
  obtain ⟨t0, p0, d0⟩ := hc
  obtain ⟨t1, p1, d1⟩ := ha
  obtain ⟨t2, p2, d2⟩ := hb
  refine ⟨_, ps_if p0 p1 p2, fun σ I H e ps d D hp s h k => d0 σ I H e ps _ _ s h fun b e1 I1 H1 h1 s1 => ?_⟩
  cases b with
  | true => exact d1 σ I1 H1 e1 ps d D hp s1 h1 k
  | false => exact d2 σ I1 H1 e1 ps d D hp s1 h1 k
theorem ds_set {i : Nat} {x : Str} {pos' : Pos} (hN : X.N.Nodup) (hi : X.N[i]? = some x) (hx : Loc X.env.scope x) (h1 : DE X F ex fe) (hs : swapsWith ex (some (.Name x pos')) pos.line X.env = pure false := by rfl)
    (hf : X.fn x = true ∨ X.env.scope.names.lookup x = some .local := by first | exact .inl rfl | exact .inr rfl | assumption) : DS X F (.Assign [.Name x pos'] ex pos) (sSet i fe) := by
  obtain ⟨t1, p1, d1⟩ := h1
  refine ⟨_, ps_set hN hi hx p1 hs hf, fun σ I H e ps d D hp s h k => d1 σ I H e ps _ _ s h fun x r e1 I1 H1 h1 s1 => ?_⟩
  obtain ⟨e2, ha, h2⟩ := h1
  obtain ⟨I2, s2⟩ := s1.asg (hp.no _) ha
  exact k.nx _ I2 H1 e2 h2 s2
end
/-! ### a def's promise from its body -/
inductive BackE : List Ent → En → List Ent → Prop
  | nil {e : En} : BackE [] e []
  | imm {d : D} {o : Option Ent} {es es' : List Ent} {e : En} : BackE es e es' → BackE (.imm d :: es) (o :: e) (.imm d :: es')
  | own {a : Addr} {d d' : D} {es es' : List Ent} {e : En} : BackE es e es' → BackE (.own a d :: es) (some (.own a d') :: e) (.own a d' :: es')
  | hand {p c : Addr} {n n' : Nat} {es es' : List Ent} {e : En} : BackE es e es' → BackE (.hand p c n :: es) (some (.hand p c n') :: e) (.hand p c n' :: es')
theorem BackE.len {es : List Ent} {e : En} {es' : List Ent} (h : BackE es e es') : es'.length = es.length := by
  induction h with
  | nil => rfl
  | imm _ ih => simp [ih]
  | own _ ih => simp [ih]
  | hand _ ih => simp [ih]
theorem BackE.at_ {es : List Ent} {e : En} {es' : List Ent} (h : BackE es e es') : ∀ {i : Nat} {t : Ent}, es'[i]? = some t → (∃ d, t = .imm d ∧ es[i]? = some (.imm d)) ∨
    ∃ t0, es[i]? = some t0 ∧ e[i]? = some (some t) ∧ ∀ (K : PySem.W.Frag) (I H I' H' : Hp) (x y : V), EntR K I H x t0 → EntR K I' H' y t → x = y := by
  induction h with
  | nil => intro i t q; simp at q
  | imm _ ih =>
    intro i t q
    cases i with
    | zero => simp at q; subst q; exact .inl ⟨_, rfl, rfl⟩
    | succ i => simpa using ih (i := i) (t := t) (by simpa using q)
  | own _ ih =>
    intro i t q
    cases i with
    | zero => simp at q; subst q; exact .inr ⟨_, rfl, rfl, fun K I H I' H' x y h1 h2 => h1.1.trans h2.1.symm⟩
    | succ i => simpa using ih (i := i) (t := t) (by simpa using q)
  | hand _ ih =>
    intro i t q
    cases i with
    | zero => simp at q; subst q; exact .inr ⟨_, rfl, rfl, fun K I H I' H' x y h1 h2 => h1.1.trans h2.1.symm⟩
    | succ i => simpa using ih (i := i) (t := t) (by simpa using q)
section
variable {F : Fr} {σ : L2.St} {I H I' H' : Hp} {e e' : En} {ps : Tm} {vs : List V} {es es' : List Ent} {x : V} {t : Ent}
theorem ST.mov {r : Rv} (s : ST F σ I H e (ps ++ [(x, r)])) (hp : Imms ps) (h : mov e r = some (t, e')) : ST F σ I H e' (ps ++ [(x, .ent t)]) := by
  cases r with
  | ent u => cases h; exact s
  | slot i =>
    have al := (s.ali (x, .slot i) (by simp) i rfl).1
    unfold TK.mov at h
    dsimp only at h
    split at h
    · rename_i d q
      cases h
      obtain ⟨y, y1, y2⟩ := s.slot q
      rw [al] at y1
      cases y1
      exact ST.immAt (qs := []) s y2
    · rename_i a d q
      cases h
      have hi := (List.getElem?_eq_some_iff.mp q).1
      obtain ⟨y, y1, y2⟩ := s.slot q
      rw [al] at y1
      cases y1
      have s0 : ST F σ I H e ps := s.weak
      have qc : (e ++ tn ps)[i]? = some (some (.own a d)) := by rw [List.getElem?_append_left hi]; exact q
      have hσ : σ.set i (some x) = σ := by
        refine List.ext_getElem? fun j => ?_
        by_cases hj : j = i
        · subst hj
          rw [List.getElem?_set_self (by rw [← s.len]; exact hi), al]
        · rw [List.getElem?_set_ne (Ne.symm hj)]
      have z := s0.env.setN (i := i) (y := some x)
      rw [List.set_append_left _ _ (by rw [← s.len]; exact hi), List.set_append_left _ _ hi, hσ] at z
      have sub_adr : ∀ b, b ∈ adr (e.set i none ++ tn ps) → b ∈ adr (e ++ tn ps) ∧ b ≠ a := fun b hb => by
        obtain ⟨j, u, w, m⟩ := mem_adr.mp hb
        rw [← List.set_append_left _ _ hi] at w
        by_cases hj : j = i
        · subst hj
          have l1 := (List.getElem?_eq_some_iff.mp w).1
          rw [List.length_set] at l1
          rw [List.getElem?_set_self l1] at w
          cases w
        · rw [List.getElem?_set_ne (Ne.symm hj)] at w
          exact ⟨mem_adr.mpr ⟨j, u, w, m⟩, fun c => hj (s0.env.sep j i u _ b w qc m (by simp [c]))⟩
      have s1 : ST F σ I H (e.set i none) ps := ⟨s.sub, by rw [List.length_set]; exact s.len, z, fun p hp' j w => (hp.no [j] p hp' j w (by simp)).elim, ⟨s0.base.imm, s0.base.keep, fun b hb => s0.base.own b (sub_adr b hb).1, s0.base.new⟩⟩
      refine s1.pushE y2 fun b hb => ?_
      simp at hb
      subst hb
      exact ⟨fun c => (sub_adr b c).2 rfl, s0.base.own b (mem_adr.mpr ⟨i, _, qc, by simp⟩)⟩
    · cases h
/-- the end of a def -/
theorem ST.fin (hF : F.e0 = es.map some) (env : EnvR F.K F.I0 F.H0 (vs.map some) (es.map some)) (s : ST F σ I' H' e [(x, .ent t)]) (b : BackE es e es') :
    EnvR F.K I' H' (vs.map some ++ [some x]) (es'.map some ++ [some t]) ∧ Step (es.map some) F.I0 F.H0 (es'.map some ++ [some t]) I' H' := by
  have lv : (es.map some).length = (vs.map (some : V → Option V)).length := env.len
  rw [List.length_map, List.length_map] at lv
  have lb := b.len
  have tm : EntR F.K I' H' x t := ST.temp (ps := []) (qs := []) s
  have tl := tm_at (ps := []) (qs := []) (x := x) (r := .ent t) s.len
  have at2 : ∀ i u, es'[i]? = some u → (∃ y, vs[i]? = some y ∧ EntR F.K I' H' y u) ∧ ∀ a ∈ u.adr, e[i]? = some (some u) := fun i u q => by
    rcases b.at_ q with ⟨d, rfl, z⟩ | ⟨t0, z1, z2, z3⟩
    · obtain ⟨y, y1, y2⟩ := env.at_ i (.imm d) (by rw [List.getElem?_map, z]; rfl)
      rw [List.getElem?_map] at y1
      cases w : vs[i]? with
      | none => rw [w] at y1; cases y1
      | some y' =>
        rw [w] at y1
        cases y1
        exact ⟨⟨y, w, Rep.mono s.base.imm y2⟩, fun a ha => by simp at ha⟩
    · obtain ⟨y, y1, y2⟩ := env.at_ i t0 (by rw [List.getElem?_map, z1]; rfl)
      rw [List.getElem?_map] at y1
      cases w : vs[i]? with
      | none => rw [w] at y1; cases y1
      | some y' =>
        rw [w] at y1
        cases y1
        obtain ⟨y0, y3, y4⟩ := s.slot z2
        exact ⟨⟨y, by first | exact w | rfl, by rw [z3 _ _ _ _ _ y y0 y2 y4]; exact y4⟩, fun a _ => z2⟩
  have last : ∀ {i u}, (es'.map some ++ [some t])[i]? = some (some u) → (i < es'.length ∧ es'[i]? = some u) ∨ (i = es'.length ∧ u = t) := fun {i u} q => by
    by_cases hi : i < es'.length
    · rw [List.getElem?_append_left (by rw [List.length_map]; exact hi), List.getElem?_map] at q
      cases w : es'[i]? with
      | none => rw [w] at q; cases q
      | some u' => rw [w] at q; cases q; exact .inl ⟨hi, rfl⟩
    · rw [List.getElem?_append_right (by rw [List.length_map]; omega), List.length_map] at q
      have hl := (List.getElem?_eq_some_iff.mp q).1
      have h0 : i - es'.length = 0 := by simp at hl; omega
      rw [h0] at q
      cases q
      exact .inr ⟨by omega, rfl⟩
  have inE : ∀ a, a ∈ adr (es'.map some ++ [some t]) → a ∈ adr (e ++ tn [(x, .ent t)]) := fun a ha => by
    obtain ⟨i, u, q, m⟩ := mem_adr.mp ha
    rcases last q with ⟨_, z⟩ | ⟨_, rfl⟩
    · have w := (at2 i u z).2 a m
      exact mem_adr.mpr ⟨i, u, by rw [List.getElem?_append_left (List.getElem?_eq_some_iff.mp w).1]; exact w, m⟩
    · exact mem_adr.mpr ⟨_, u, tl.2, m⟩
  refine ⟨⟨by simp [lb, lv], fun i u q => ?_, fun i j u v a q1 q2 m1 m2 => ?_⟩, ?_⟩
  · rcases last q with ⟨hi, z⟩ | ⟨rfl, rfl⟩
    · obtain ⟨⟨y, y1, y2⟩, _⟩ := at2 i u z
      refine ⟨y, ?_, y2⟩
      rw [List.getElem?_append_left (by rw [List.length_map]; omega), List.getElem?_map, y1]
      rfl
    · refine ⟨x, ?_, tm⟩
      rw [List.getElem?_append_right (by rw [List.length_map]; omega), List.length_map, show es'.length - vs.length = 0 by omega]
      rfl
  · rcases last q1 with ⟨h1, z1⟩ | ⟨h1, rfl⟩ <;> rcases last q2 with ⟨h2, z2⟩ | ⟨h2, rfl⟩
    · have w1 := (at2 i u z1).2 a m1
      have w2 := (at2 j v z2).2 a m2
      exact s.env.sep i j u v a (by rw [List.getElem?_append_left (List.getElem?_eq_some_iff.mp w1).1]; exact w1) (by rw [List.getElem?_append_left (List.getElem?_eq_some_iff.mp w2).1]; exact w2) m1 m2
    · have w1 := (at2 i u z1).2 a m1
      have l1 := (List.getElem?_eq_some_iff.mp w1).1
      have z := s.env.sep i _ u v a (by rw [List.getElem?_append_left l1]; exact w1) tl.2 m1 m2
      have := s.len
      simp at z
      omega
    · have w2 := (at2 j v z2).2 a m2
      have l2 := (List.getElem?_eq_some_iff.mp w2).1
      have z := s.env.sep j _ v u a (by rw [List.getElem?_append_left l2]; exact w2) tl.2 m2 m1
      have := s.len
      simp at z
      omega
    · omega
  · have bs := s.base
    rw [hF] at bs
    exact ⟨bs.imm, bs.keep, fun a ha => bs.own a (inE a ha), bs.new⟩
end
def frOf (K : PySem.W.Frag) (es : List Ent) (I H : Hp) (E : XK) (PX : Addr → D → List Ent → Prop) : Fr := ⟨K, es.map some, I, H, fun cls d _ H => E cls d H, fun C d e => ∃ es', BackE es e es' ∧ PX C d es'⟩
def startE (n : Nat) (es : List Ent) : En := es.map some ++ List.replicate (n - es.length) none
def endE (es : List Ent) (P : Ent → List Ent → Prop) : Ed := { nx := fun e => ∃ es', BackE es e es' ∧ P (.imm .non) es', rt := fun r e => ∃ t e', mov e r = some (t, e') ∧ ∃ es', BackE es e' es' ∧ P t es' }
theorem EnvR.pads {K : PySem.W.Frag} {I H : Hp} {σ : L2.St} {e : En} (h : EnvR K I H σ e) : ∀ n, EnvR K I H (σ ++ List.replicate n none) (e ++ List.replicate n none)
  | 0 => by simpa using h
  | n + 1 => by
    rw [List.replicate_succ', List.replicate_succ', ← List.append_assoc, ← List.append_assoc]
    exact (EnvR.pads h n).pushN
theorem adr_pads (e : En) (n : Nat) : adr (e ++ List.replicate n none) = adr e := by
  rw [adr_app]
  have : adr (List.replicate n none) = [] := by
    unfold adr
    induction n with
    | zero => rfl
    | succ n ih => rw [List.replicate_succ, List.flatMap_cons, ih]; rfl
  rw [this, List.append_nil]
theorem okD_fn {K : PySem.W.Frag} {P : Program} {w : World} {mg : Str → Option Value} {base : Heap} {x qual : Str} {st : Stmt} {f : Addr} {fd : FuncData} {N ps : List Str} {k : Nat} {con : Con} (G : Fun K x qual st f fd) (S : FnScope N ps (defScope st))
    (len : ∀ es P PX, con es P PX → es.length = ps.length)
    (hbody : ∀ (cdv : Value) (A : Around) (outer : List Env) (s : Shared) (H I : Hp) (E : XK) (es : List Ent) (R : Ent → List Ent → Prop) (PX : Addr → D → List Ent → Prop), Room k (A.deeper (envOfC qual (defScope st) s.heap.objs.size f cdv)) → FrOk (frOf K es I H E PX) → con es R PX →
      ∃ g, DSs (cxOf (L2.CX P w) P w K mg base N qual (defScope st) f cdv A outer s H E) (frOf K es I H E PX) (defBody st) g ∧ g (startE N.length es) (endE es R)) : FnOk P w K mg base (L2.CX P w) (k + 1) f fd ps (spD K con) := by
  refine G.okX S (fun vs H Q E h => ?_) fun cdv A outer s H vs Q E hr h => ?_
  · obtain ⟨I, es, R, PX, _, env, hc, _⟩ := h
    have l := env.len
    rw [List.length_map, List.length_map] at l
    rw [← l]
    exact len _ _ _ hc
  · obtain ⟨I, es, R, PX, sub, env, hc, kq, ke⟩ := h
    have l := env.len
    rw [List.length_map, List.length_map] at l
    have fo : FrOk (frOf K es I H E PX) := fun σ I' H' e ps C d x dd s' hp rx hx => by
      obtain ⟨es', b, hp⟩ := hp
      have s1 : ST (frOf K es I H E PX) σ I' H' e ([] ++ [(V.non, .im .non)]) := (show ST (frOf K es I H E PX) σ I' H' e [] from ST.weak (ps := []) (qs := ps) s').pushI .non
      obtain ⟨env', st'⟩ := ST.fin (es := es) (vs := vs) rfl env s1 b
      have lx : (es'.map some).length = (vs.map (some : V → Option V)).length := by rw [List.length_map, List.length_map, b.len, l]
      exact ke C d es' x dd I' H' hp s'.sub (EnvR.pre lx env') ⟨st'.imm, st'.keep, fun a ha => st'.own a (by rw [adr_app]; exact List.mem_append_left _ ha), st'.new⟩ rx hx
    obtain ⟨g, ⟨t, pt, dt⟩, hg⟩ := hbody cdv A outer s H I E es R PX hr fo hc
    refine ⟨t, pt, dt (L2.start N vs) I H (startE N.length es) [] (endE es R) _ (fun p hp => by simp at hp) ?_ hg ?_⟩
    · refine ⟨sub, by simp [startE, L2.start, l], ?_, fun p hp => by simp at hp, ?_⟩
      · show EnvR K I H (L2.start N vs ++ []) (startE N.length es ++ [])
        rw [List.append_nil, List.append_nil]
        unfold L2.start startE
        rw [l]
        exact env.pads _
      · show Step (es.map some) I H (startE N.length es ++ []) I H
        rw [List.append_nil]
        unfold startE
        refine ⟨Le.refl, fun _ _ q _ => q, fun a ha => .inl ?_, fun _ _ q => .inl q⟩
        rw [adr_pads] at ha
        exact ha
    · refine ⟨fun σ' I' H' e' hn s' => ?_, fun x r σ' I' H' e' hn s' => ?_, fun _ _ _ _ z => z.elim, fun _ _ _ _ z => z.elim⟩
      · obtain ⟨es', b, hp⟩ := hn
        have s1 : ST (frOf K es I H E PX) σ' I' H' e' ([] ++ [(V.non, .im .non)]) := ST.pushI (ps := []) s' .non
        obtain ⟨env', st'⟩ := ST.fin (es := es) (vs := vs) rfl env s1 b
        exact kq _ es' _ I' H' hp s'.sub env' st'
      · obtain ⟨u, e2, hm, es', b, hp⟩ := hn
        have s1 := ST.mov (ps := []) s' (fun p hp => by simp at hp) hm
        obtain ⟨env', st'⟩ := ST.fin (es := es) (vs := vs) rfl env s1 b
        exact kq _ es' _ I' H' hp s'.sub env' st'
/-! ### targets -/
abbrev TgF := D → En → (En → Prop) → Prop
abbrev TgsF := List D → En → (En → Prop) → Prop
/-- slots beside sl are as they were -/
def SameOut (sl : List Nat) (σ σ' : L2.St) : Prop := σ'.length = σ.length ∧ ∀ j, j ∉ sl → σ'[j]? = σ[j]?
def DTgt (F : Fr) (t : TG) (f : TgF) (sl : List Nat) : Prop := ∀ (v : V) (c : D) (σ : L2.St) (I H : Hp) (e : En) (ps : Tm) (P : En → Prop) (Q : L2.St → Hp → Prop), NoSl sl ps → ST F σ I H e ps → Rep F.K I v c → f c e P →
  (∀ σ' e', P e' → ST F σ' I H e' ps → SameOut sl σ σ' → Q σ' H) → t v σ H Q
def DTgts (F : Fr) (t : TGs) (f : TgsF) (sl : List Nat) : Prop := ∀ (vs : List V) (cs : List D) (σ : L2.St) (I H : Hp) (e : En) (ps : Tm) (P : En → Prop) (Q : L2.St → Hp → Prop), NoSl sl ps → ST F σ I H e ps → Reps F.K I vs cs → f cs e P →
  (∀ σ' e', P e' → ST F σ' I H e' ps → SameOut sl σ σ' → Q σ' H) → t vs σ H Q
structure DGt (X : Cx) (F : Fr) (tg : Expr) (f : TgF) (sl : List Nat) : Prop where
  ex : ∃ t, PG X tg t ∧ DTgt F t f sl
structure DGts (X : Cx) (F : Fr) (tgs : List Expr) (f : TgsF) (sl : List Nat) : Prop where
  ex : ∃ t, PGs X tgs t ∧ DTgts F t f sl
def gN (i : Nat) : TgF := fun c e P => ∃ e2, asg e i (.im c) = some e2 ∧ P e2
def gNl : TgsF := fun cs e P => cs = [] ∧ P e
def gCn (f : TgF) (g : TgsF) : TgsF := fun cs e P => ∃ c r, cs = c :: r ∧ f c e fun e1 => g r e1 P
def gT (n : Nat) (g : TgsF) : TgF := fun c e P => ∃ cs, (c = .tup cs ∨ c = .lst cs) ∧ cs.length = n ∧ g cs e P
section
variable {X : Cx} {F : Fr} {pos : Pos} {sl sl' : List Nat}
theorem dg_name {i : Nat} {x : Str} (hN : X.N.Nodup) (hi : X.N[i]? = some x) (hx : Loc X.env.scope x) (hf : X.fn x = true ∨ X.env.scope.names.lookup x = some .local := by first | exact .inl rfl | exact .inr rfl | assumption) : DGt X F (.Name x pos) (gN i) [i] :=
  ⟨_, pg_name hN hi hx hf, fun v c σ I H e ps P Q hp s r h k => by
    obtain ⟨e2, ha, h2⟩ := h
    have s1 : ST F σ I H e (ps ++ [(v, .im c)]) := s.pushI r
    unfold TK.asg at ha
    split at ha
    · cases ha
    · rename_i o q
      cases ha
      exact k _ _ h2 (s1.asgE hp (List.getElem?_eq_some_iff.mp q).1) ⟨List.length_set .., fun j hj => List.getElem?_set_ne fun z => hj (by simp [z])⟩⟩
theorem dgs_nil : DGts X F [] gNl [] := ⟨_, pgs_nil, fun vs cs σ I H e ps P Q hp s r h k => by
  obtain ⟨rfl, h⟩ := h
  cases r
  exact ⟨rfl, k σ e h s ⟨rfl, fun _ _ => rfl⟩⟩⟩
theorem dgs_cons {t : Expr} {ts : List Expr} {f : TgF} {g : TgsF} (h1 : DGt X F t f sl) (h2 : DGts X F ts g sl') (hs : (assignEach (t :: ts) X.env).map (·.2) = assign t X.env :: (assignEach ts X.env).map (·.2) := by rfl) : DGts X F (t :: ts) (gCn f g) (sl ++ sl') := by
  obtain ⟨t1, p1, d1⟩ := h1
  obtain ⟨t2, p2, d2⟩ := h2
  refine ⟨_, pgs_cons p1 p2 hs, fun vs cs σ I H e ps P Q hp s r h k => ?_⟩
  obtain ⟨c, cs', rfl, h⟩ := h
  cases r with
  | cons r1 r2 =>
    refine ⟨_, _, rfl, d1 _ c σ I H e ps _ _ (fun p h j q m => hp p h j q (List.mem_append_left _ m)) s r1 h fun σ1 e1 h1 s1 o1 => d2 _ cs' σ1 I H e1 ps P Q (fun p h j q m => hp p h j q (List.mem_append_right _ m)) s1 r2 h1 fun σ2 e2 h2 s2 o2 => ?_⟩
    exact k σ2 e2 h2 s2 ⟨o2.1.trans o1.1, fun j hj => (o2.2 j fun m => hj (List.mem_append_right _ m)).trans (o1.2 j fun m => hj (List.mem_append_left _ m))⟩
theorem PG.or {tg : Expr} {t u : TG} (h : PG X tg t) (h' : PG X tg u) : PG X tg (fun v σ H Q => t v σ H Q ∨ u v σ H Q) := ⟨fun pins s σ H v u' Q I r q => by
  rcases q with q | q
  · exact h.run pins s σ H v u' Q I r q
  · exact h'.run pins s σ H v u' Q I r q⟩
theorem dg_tup {es : List Expr} {k n : Nat} {g : TgsF} (hc : X.calm = true) (h : DGts X F es g sl) (hK : F.K = X.K := by first | rfl | assumption) (hn : (assignEach es X.env).length = n := by rfl) (hst : (assignEach es X.env).findIdx? (·.1) = none := by rfl) : DGt X F (.Tuple es k pos) (gT n g) sl := by
  obtain ⟨t, p, d⟩ := h
  refine ⟨_, PG.or (pg_tup hc p hn hst) (pg_unl hc p hn hst), fun v c σ I H e ps P Q hp s r h k => ?_⟩
  obtain ⟨cs, hc, hl, h⟩ := h
  rcases hc with rfl | rfl
  · cases r with
    | @tup a xs _ hx rr =>
      exact .inl ⟨a, xs, rfl, SqT.of (s.sub _ _ hx), by rw [rr.len]; exact hl, d xs cs σ I H e ps P Q hp s rr h k⟩
  · cases r with
    | @lst a xs _ hx rr => exact .inr ⟨a, xs, rfl, SqL.of (s.sub _ _ hx), by rw [rr.len]; exact hl, d xs cs σ I H e ps P Q hp s rr h k⟩
end
def sAsg (f : EvF) (g : TgF) : SvF := fun e d => f e fun r e1 => ∃ c e2, frz e1 r = some (c, e2) ∧ g c e2 d.nx
section
variable {X : Cx} {F : Fr} {pos : Pos} {ex tg : Expr} {fe : EvF} {g : TgF} {sl : List Nat}
theorem ds_asg (h1 : DE X F ex fe) (h2 : DGt X F tg g sl) (hs : swapsWithSole [tg] ex pos.line X.env = pure false := by rfl) (hw : swappedStores [tg] ex X.env = pure none := by rfl)
    (h3 : (assignEach [tg] X.env).map (·.2) = [assign tg X.env] := by rfl) : DS X F (.Assign [tg] ex pos) (sAsg fe g) := by
  obtain ⟨t1, p1, d1⟩ := h1
  obtain ⟨t2, p2, d2⟩ := h2
  refine ⟨_, ps_asg p1 p2 hs hw h3, fun σ I H e ps d D hp s h k => d1 σ I H e ps _ _ s h fun x r e1 I1 H1 h1 s1 => ?_⟩
  obtain ⟨c, e2, hf, h2⟩ := h1
  obtain ⟨I2, _, s2⟩ := s1.frz hf
  exact d2 x c σ I2 H1 e2 ps d.nx _ (hp.no _) s2.weak (ST.temp (qs := []) (t := .imm c) s2) h2 fun σ' e' h' s' _ => k.nx σ' I2 H1 e' h' s'
end
/-! ### what is walked -/
def Holds (K : PySem.W.Frag) (I : Hp) (qs : Tm) : Prop := ∀ p ∈ qs, ∀ c, p.2 = Rv.im c → Rep K I p.1 c
theorem ST.holds {F : Fr} {σ : L2.St} {I H : Hp} {e : En} {ps qs : Tm} (s : ST F σ I H e (ps ++ qs)) : Holds F.K I qs := fun p hp c hc => by
  obtain ⟨l1, l2, rfl⟩ := List.append_of_mem hp
  obtain ⟨x, r⟩ := p
  have hc' : r = Rv.im c := hc
  subst hc'
  rw [← List.append_assoc] at s
  exact ST.temp (t := .imm c) s
/-- J walks over the things ds, as long as qs are held -/
structure ItD (K : PySem.W.Frag) (J : It) (qs : Tm) (ds : List D) : Prop where
  go : ∀ (I H : Hp) (i : Nat), Sub I H → Holds K I qs → i < ds.length → J.go i H
  stop : ∀ (I H : Hp), Sub I H → Holds K I qs → J.stop ds.length H
  yld : ∀ (I H : Hp) (i : Nat) (x : V) (H' : Hp), Sub I H → Holds K I qs → i < ds.length → J.yld i H x H' → ∃ I' d, Grow I H I' H' ∧ ds[i]? = some d ∧ Rep K I' x d
abbrev EvI := En → (List D → En → Prop) → Prop
def DTI (F : Fr) (wi : TI) (f : EvI) : Prop := ∀ (σ : L2.St) (I H : Hp) (e : En) (ps : Tm) (P : List D → En → Prop) (R : It → Hp → Prop), ST F σ I H e ps → f e P →
  (∀ J ds qs e' I' H', P ds e' → Imms qs → ST F σ I' H' e' (ps ++ qs) → ItD F.K J qs ds → R J H') → wi σ H R
structure DI (X : Cx) (F : Fr) (tg it : Expr) (f : EvI) : Prop where
  ex : ∃ wi, PI X tg it wi ∧ DTI F wi f
/-- a list, a tuple, a text -/
def iAny (K : PySem.W.Frag) (tl : TE) : TI := fun σ H R => tl σ H fun x H1 => (∃ a, x = .ref a ∧ (∃ xs, SqL K H1 a xs) ∧ R (Itl K a) H1) ∨ (∃ a, x = .ref a ∧ (∃ xs, SqT K H1 a xs) ∧ R (Itt K a) H1) ∨ ∃ z, x = .str z ∧ R (Its z) H1
theorem pi_any {X : Cx} {tg l : Expr} {tl : TE} (hl : PE X l tl) : PI X tg l (iAny X.K tl) := by
  constructor
  intro pins s σ H R I h
  apply thn (hl.run pins s σ H _ I h)
  rintro v s1 ⟨x, H1, I1, r1, ⟨a, rfl, ⟨xs, hq⟩, q⟩ | ⟨a, rfl, ⟨xs, hq⟩, q⟩ | ⟨z, rfl, q⟩⟩
  · cases r1
    obtain ⟨its, _, pl, _⟩ := I1.list hq
    apply wpAny_pyIter_list pl.isList
    exact pi_one (tk := s1.toks) I1 _ (turn_list a _) ⟨_, Heap.get?_push_size _ rfl, rfl, rfl⟩ q
  · cases r1
    obtain ⟨its, _, pl, _⟩ := I1.tuple hq
    apply wpAny_pyIter_tuple (items := its.toArray) pl
    exact pi_one (tk := s1.toks) I1 _ (turn_tuple a _) ⟨_, Heap.get?_push_size _ rfl, rfl, rfl⟩ q
  · obtain ⟨t, rfl⟩ := r1
    cases ha : z.cps.all (· < 128) with
    | false =>
      apply wpAny_pyIter_wide ha
      exact pi_one (tk := s1.toks) I1 _ (turn_str _ z t _ (.inr rfl)) ⟨_, Heap.get?_push_size _ rfl, rfl, rfl⟩ q
    | true =>
      apply wpAny_pyIter_ascii ha
      exact pi_one (tk := s1.toks) I1 _ (turn_str _ z t _ (.inl rfl)) ⟨_, Heap.get?_push_size _ rfl, rfl, rfl⟩ q
def chars (z : Str) : List D := z.cps.toList.map fun c => .str ⟨#[c]⟩
def items : D → Option (List D)
  | .lst ds => some ds
  | .fls ds => some ds
  | .tup ds => some ds
  | .ftp ds => some ds
  | .str z => some (chars z)
  | _ => none
def wSeq (f : EvF) : EvI := fun e P => f e fun r e1 => ∃ c e2 ds, frz e1 r = some (c, e2) ∧ items c = some ds ∧ P ds e2
def rngD (lo c : Int) (n : Nat) : List D := (List.range n).map fun i : Nat => .int (lo + (i : Int) * c)
def wRng1 (f : EvA) : EvI := fun e P => f e fun rs e1 => ∃ j, vals e1 rs = some [.int j] ∧ -(2 ^ 62) ≤ j ∧ j < 2 ^ 62 ∧ P (rngD 0 1 j.toNat) e1
def wRng2 (f : EvA) : EvI := fun e P => f e fun rs e1 => ∃ i j, vals e1 rs = some [.int i, .int j] ∧ (-(2 ^ 62) ≤ i ∧ i < 2 ^ 62 ∧ -(2 ^ 62) ≤ j ∧ j < 2 ^ 62) ∧ P (rngD i 1 (j - i).toNat) e1
def wRng3 (f : EvA) : EvI := fun e P => f e fun rs e1 => ∃ i j c n, vals e1 rs = some [.int i, .int j, .int c] ∧ RgC i j c n ∧ P (rngD i c n) e1
def enumD (ds : List D) : List D := ds.mapIdx fun i d => .tup [.int i, d]
def wEnum (f : EvF) : EvI := fun e P => f e fun r e1 => ∃ c e2 ds, frz e1 r = some (c, e2) ∧ c = .lst ds ∧ P (enumD ds) e2
section
variable {K : PySem.W.Frag}
theorem itd_list {a : Addr} {x : V} {c : D} {xs : List V} {ds : List D} (hx : x = .ref a) (h : ∀ I H, Sub I H → Rep K I x c → ∃ xs, SqL K H a xs ∧ Reps K I xs ds) : ItD K (Itl K a) [(x, .im c)] ds := by
  have hd : ∀ I H, Sub I H → Holds K I [(x, .im c)] → ∃ xs, SqL K H a xs ∧ Reps K I xs ds := fun I H s q => h I H s (q (x, .im c) (by simp) c rfl)
  refine ⟨fun I H i s q hi => ?_, fun I H s q => ?_, fun I H i y H' s q hi hy => ?_⟩
  · obtain ⟨xs, q1, r⟩ := hd I H s q
    exact ⟨xs, xs[i]'(by rw [r.len]; exact hi), q1, List.getElem?_eq_getElem _⟩
  · obtain ⟨xs, q1, r⟩ := hd I H s q
    exact ⟨xs, q1, Nat.le_of_eq r.len⟩
  · obtain ⟨xs, q1, r⟩ := hd I H s q
    obtain ⟨rfl, h2⟩ := hy
    obtain ⟨d, e1, e2⟩ := r.get' (h2 xs q1)
    exact ⟨I, d, Grow.refl s, e1, e2⟩
theorem itd_tup {a : Addr} {x : V} {c : D} {ds : List D} (h : ∀ I H, Sub I H → Rep K I x c → ∃ xs, SqT K H a xs ∧ Reps K I xs ds) : ItD K (Itt K a) [(x, .im c)] ds := by
  have hd : ∀ I H, Sub I H → Holds K I [(x, .im c)] → ∃ xs, SqT K H a xs ∧ Reps K I xs ds := fun I H s q => h I H s (q (x, .im c) (by simp) c rfl)
  refine ⟨fun I H i s q hi => ?_, fun I H s q => ?_, fun I H i y H' s q hi hy => ?_⟩
  · obtain ⟨xs, q1, r⟩ := hd I H s q
    exact ⟨xs, xs[i]'(by rw [r.len]; exact hi), q1, List.getElem?_eq_getElem _⟩
  · obtain ⟨xs, q1, r⟩ := hd I H s q
    exact ⟨xs, q1, Nat.le_of_eq r.len⟩
  · obtain ⟨xs, q1, r⟩ := hd I H s q
    obtain ⟨rfl, h2⟩ := hy
    obtain ⟨d, e1, e2⟩ := r.get' (h2 xs q1)
    exact ⟨I, d, Grow.refl s, e1, e2⟩
theorem itd_str {z : Str} {qs : Tm} : ItD K (Its z) qs (chars z) := by
  have hl : (chars z).length = z.cps.size := by unfold chars; simp
  refine ⟨fun I H i s q hi => by rw [hl] at hi; exact hi, fun I H s q => by rw [hl]; exact Nat.le_refl _, fun I H i y H' s q hi hy => ?_⟩
  obtain ⟨rfl, c, h1, rfl⟩ := hy
  refine ⟨I, .str ⟨#[c]⟩, Grow.refl s, ?_, .str _⟩
  unfold chars
  rw [List.getElem?_map, Array.getElem?_toList, h1]
  rfl
theorem rngD_len {lo c : Int} {n : Nat} : (rngD lo c n).length = n := by unfold rngD; simp
theorem rngD_at {lo c : Int} {n i : Nat} (h : i < n) : (rngD lo c n)[i]? = some (.int (lo + (i : Int) * c)) := by unfold rngD; simp [h]
theorem itd_rng {lo : Int} {n : Nat} {qs : Tm} : ItD K (Itr lo n) qs (rngD lo 1 n) := by
  refine ⟨fun I H i s q hi => by rw [rngD_len] at hi; exact hi, fun I H s q => by rw [rngD_len]; exact Nat.le_refl _, fun I H i y H' s q hi hy => ?_⟩
  obtain ⟨rfl, rfl⟩ := hy
  rw [rngD_len] at hi
  exact ⟨I, _, Grow.refl s, rngD_at hi, by rw [Int.mul_one]; exact .int _⟩
theorem itd_rngC {lo c : Int} {n : Nat} {qs : Tm} : ItD K (Itc lo c n) qs (rngD lo c n) := by
  refine ⟨fun I H i s q hi => by rw [rngD_len] at hi; exact hi, fun I H s q => by rw [rngD_len]; exact Nat.le_refl _, fun I H i y H' s q hi hy => ?_⟩
  obtain ⟨rfl, rfl⟩ := hy
  rw [rngD_len] at hi
  exact ⟨I, _, Grow.refl s, rngD_at hi, .int _⟩
end
theorem imms1 {x : V} {c : D} : Imms [(x, .im c)] := fun p hp => by
  rw [List.mem_singleton] at hp
  subst hp
  exact ⟨c, rfl⟩
theorem imms0 : Imms [] := fun p hp => by simp at hp
section
variable {X : Cx} {F : Fr} {tg a b c : Expr} {f : EvF} {g : EvA} {p pos : Pos}
theorem di_seq (h : DE X F a f) (hK : F.K = X.K := by first | rfl | assumption) : DI X F tg a (wSeq f) := by
  obtain ⟨t, p, d⟩ := h
  refine ⟨_, pi_any p, fun σ I H e ps P R s h k => ?_⟩
  refine d σ I H e ps _ _ s h fun x r e1 I1 H1 h1 s1 => ?_
  obtain ⟨c, e2, ds, hf, hi, h2⟩ := h1
  obtain ⟨I2, _, s2⟩ := s1.frz hf
  have rx : Rep F.K I2 x c := ST.temp (qs := []) (t := .imm c) s2
  cases c with
  | lst ds' =>
    cases hi
    cases rx with
    | @lst a' xs _ hx rr => exact .inl ⟨a', rfl, ⟨xs, SqL.of (s2.sub _ _ hx)⟩, by
        rw [← hK]
        refine k _ ds _ e2 I2 H1 h2 imms1 s2 (itd_list (xs := xs) rfl fun I' H' s' r' => ?_)
        cases r' with
        | lst hx' rr' => exact ⟨_, SqL.of (s' _ _ hx'), rr'⟩⟩
  | fls ds' =>
    cases hi
    cases rx with
    | @fls a' xs _ hx rr => exact .inl ⟨a', rfl, ⟨xs, by rw [← hK]; exact Le.sqL s2.sub hx⟩, by
        rw [← hK]
        refine k _ ds _ e2 I2 H1 h2 imms1 s2 (itd_list (xs := xs) rfl fun I' H' s' r' => ?_)
        cases r' with
        | fls hx' rr' => exact ⟨_, Le.sqL s' hx', rr'⟩⟩
  | tup ds' =>
    cases hi
    cases rx with
    | @tup a' xs _ hx rr => exact .inr (.inl ⟨a', rfl, ⟨xs, SqT.of (s2.sub _ _ hx)⟩, by
        rw [← hK]
        refine k _ ds _ e2 I2 H1 h2 imms1 s2 (itd_tup fun I' H' s' r' => ?_)
        cases r' with
        | tup hx' rr' => exact ⟨_, SqT.of (s' _ _ hx'), rr'⟩⟩)
  | ftp ds' =>
    cases hi
    cases rx with
    | @ftp a' xs _ hx rr => exact .inr (.inl ⟨a', rfl, ⟨xs, by rw [← hK]; exact Le.sqT s2.sub hx⟩, by
        rw [← hK]
        refine k _ ds _ e2 I2 H1 h2 imms1 s2 (itd_tup fun I' H' s' r' => ?_)
        cases r' with
        | ftp hx' rr' => exact ⟨_, Le.sqT s' hx', rr'⟩⟩)
  | str z =>
    cases hi
    cases rx
    exact .inr (.inr ⟨z, rfl, k _ _ _ e2 I2 H1 h2 imms1 s2 itd_str⟩)
  | _ => cases hi
theorem VwRs.ints1 {K : PySem.W.Frag} {I H : Hp} {xs : List V} {j : Int} (h : VwRs K I H xs [.int j]) : xs = [.int j] := by
  cases h with
  | cons h1 h2 => cases h2; rw [h1.int]
theorem VwRs.ints2 {K : PySem.W.Frag} {I H : Hp} {xs : List V} {i j : Int} (h : VwRs K I H xs [.int i, .int j]) : xs = [.int i, .int j] := by
  cases h with
  | cons h1 h2 => rw [h1.int, h2.ints1]
theorem VwRs.ints3 {K : PySem.W.Frag} {I H : Hp} {xs : List V} {i j l : Int} (h : VwRs K I H xs [.int i, .int j, .int l]) : xs = [.int i, .int j, .int l] := by
  cases h with
  | cons h1 h2 => rw [h1.int, h2.ints2]
theorem di_rng1 (hg : Gl X "range") (hm : X.mg "range" = none) (h : DA X F [a] g) (hs : starEach [a] X.env = [(false, eval a X.env)] := by rfl) : DI X F tg (.Call (.Name "range" p) [a] [] pos) (wRng1 g) := by
  obtain ⟨t, q, d⟩ := h
  refine ⟨_, pi_range1 hg hm q hs, fun σ I H e ps P R s h k => ?_⟩
  refine d σ I H e ps _ _ s h fun xs rs e1 I1 H1 h1 hl s1 => ?_
  obtain ⟨j, v, b1, b2, h2⟩ := h1
  exact ⟨j, (s1.vws hl v).ints1, b1, b2, k _ _ [] e1 I1 H1 h2 imms0 (by rw [List.append_nil]; exact s1.weak) itd_rng⟩
theorem di_rng2 (hg : Gl X "range") (hm : X.mg "range" = none) (h : DA X F [a, b] g) (hs : starEach [a, b] X.env = [(false, eval a X.env), (false, eval b X.env)] := by rfl) (hs2 : starEach [b] X.env = [(false, eval b X.env)] := by rfl) :
    DI X F tg (.Call (.Name "range" p) [a, b] [] pos) (wRng2 g) := by
  obtain ⟨t, q, d⟩ := h
  refine ⟨_, pi_range2 hg hm q hs hs2, fun σ I H e ps P R s h k => ?_⟩
  refine d σ I H e ps _ _ s h fun xs rs e1 I1 H1 h1 hl s1 => ?_
  obtain ⟨i, j, v, b1, h2⟩ := h1
  exact ⟨i, j, (s1.vws hl v).ints2, b1, k _ _ [] e1 I1 H1 h2 imms0 (by rw [List.append_nil]; exact s1.weak) itd_rng⟩
theorem di_rng3 (hg : Gl X "range") (hm : X.mg "range" = none) (h : DA X F [a, b, c] g) (hs : starEach [a, b, c] X.env = (false, eval a X.env) :: starEach [b, c] X.env := by rfl) (hpl : (backTo pos (starEach [b, c] X.env)).any (·.1) = false := by rfl) :
    DI X F tg (.Call (.Name "range" p) [a, b, c] [] pos) (wRng3 g) := by
  obtain ⟨t, q, d⟩ := h
  refine ⟨_, pi_range3 hg hm q hs hpl, fun σ I H e ps P R s h k => ?_⟩
  refine d σ I H e ps _ _ s h fun xs rs e1 I1 H1 h1 hl s1 => ?_
  obtain ⟨i, j, l, n, v, b1, h2⟩ := h1
  exact ⟨i, j, l, n, (s1.vws hl v).ints3, b1, k _ _ [] e1 I1 H1 h2 imms0 (by rw [List.append_nil]; exact s1.weak) itd_rngC⟩
/-- enumerate of a list -/
theorem di_enum {elts : List Expr} {kk : Nat} {tpos : Pos} (hg : Gl X "enumerate") (hm : X.mg "enumerate" = none) (h : DE X F a f) (hK : F.K = X.K := by first | rfl | assumption) (hs : starEach [a] X.env = [(false, eval a X.env)] := by rfl) :
    DI X F (.Tuple elts kk tpos) (.Call (.Name "enumerate" p) [a] [] pos) (wEnum f) := by
  obtain ⟨t, q, d⟩ := h
  refine ⟨_, pi_enum hg hm (pa_cons q pa_nil hs) hs, fun σ I H e ps P R s h k => ?_⟩
  refine d σ I H e ps _ _ s h fun x r e1 I1 H1 h1 s1 => ?_
  obtain ⟨c, e2, ds, hf, rfl, h2⟩ := h1
  obtain ⟨I2, _, s2⟩ := s1.frz hf
  have rx : Rep F.K I2 x (.lst ds) := ST.temp (qs := []) (t := .imm (.lst ds)) s2
  cases rx with
  | @lst a' xs _ hx rr =>
    refine ⟨a', xs, rfl, SqL.of (s2.sub _ _ hx), ?_⟩
    rw [← hK]
    have hd : ∀ I H, Sub I H → Holds F.K I [(V.ref a', .im (.lst ds))] → ∃ xs, SqL F.K H a' xs ∧ Reps F.K I xs ds := fun I H s q => by
      cases q (V.ref a', .im (.lst ds)) (by simp) _ rfl with
      | lst hx' rr' => exact ⟨_, SqL.of (s _ _ hx'), rr'⟩
    have hlen : (enumD ds).length = ds.length := by unfold enumD; simp
    refine k _ _ _ e2 I2 H1 h2 imms1 s2 ⟨fun I H i s q hi => ?_, fun I H s q => ?_, fun I H i y H' s q hi hy => ?_⟩
    · obtain ⟨xs, q1, r⟩ := hd I H s q
      exact ⟨xs, xs[i]'(by rw [r.len, ← hlen]; exact hi), q1, List.getElem?_eq_getElem _⟩
    · obtain ⟨xs, q1, r⟩ := hd I H s q
      exact ⟨xs, q1, by rw [hlen, r.len]; exact Nat.le_refl _⟩
    · obtain ⟨xs, q1, r⟩ := hd I H s q
      obtain ⟨T, z, rfl, hT, rfl, h3⟩ := hy
      obtain ⟨d, e1, e2⟩ := r.get' (h3 xs q1)
      have g := Grow.allocI (o := .tup [.int (i : Nat), z]) s hT
      refine ⟨_, .tup [.int (i : Nat), d], g, ?_, .tup upd_same (.cons (.int _) (.cons (e2.mono g.le) .nil))⟩
      unfold enumD
      rw [List.getElem?_mapIdx, e1]
      rfl
end
/-! ### for -/
def sFor (w : EvI) (g : TgF) (body : SvF) : SvF := fun e d => w e fun ds e1 => ∃ W : Nat → En → Prop, W 0 e1 ∧ (∀ i c e2, ds[i]? = some c → W i e2 → g c e2 fun e3 => body e3 { d with nx := W (i + 1), ct := W (i + 1), bk := d.nx }) ∧ ∀ e2, W ds.length e2 → d.nx e2
def sWhile (c : EvT) (body : SvF) : SvF := fun e d => ∃ W : Nat → En → Prop, (∃ m, W m e) ∧ ∀ m e1, W m e1 → c e1 fun b e2 => if b = true then body e2 { d with nx := fun e3 => ∃ m', m' < m ∧ W m' e3, ct := fun e3 => ∃ m', m' < m ∧ W m' e3, bk := d.nx } else d.nx e2
theorem imms_app {ps qs : Tm} (h : Imms ps) (h' : Imms qs) : Imms (ps ++ qs) := fun p hp => by
  rcases List.mem_append.mp hp with m | m
  · exact h p m
  · exact h' p m
theorem ST.drop {F : Fr} {σ : L2.St} {I H : Hp} {e : En} {ps qs : Tm} {x : V} {r : Rv} (s : ST F σ I H e (ps ++ qs ++ [(x, r)])) : ST F σ I H e (ps ++ [(x, r)]) := by
  have s0 : ST F σ I H e ps := s.weak.weak
  cases r with
  | slot i =>
    obtain ⟨h1, t, h2⟩ := s.ali (x, .slot i) (by simp) i rfl
    exact s0.pushS h1 h2
  | ent t =>
    refine s0.pushE (ST.temp (qs := []) s) fun a ha => ⟨fun z => ?_, ?_⟩
    · obtain ⟨j, u, q, m⟩ := mem_adr.mp z
      have lj := (List.getElem?_eq_some_iff.mp q).1
      have lst := tm_at (ps := ps ++ qs) (qs := []) (x := x) (r := .ent t) s.len
      have z := s.env.sep j _ u t a (by rw [tn_app, tn_app, ← List.append_assoc, ← List.append_assoc, List.append_assoc, List.getElem?_append_left lj]; exact q) lst.2 m ha
      rw [List.length_append, s.len] at lj
      unfold tn at lj
      rw [List.length_map] at lj
      rw [List.length_append] at z
      omega
    · have lst := tm_at (ps := ps ++ qs) (qs := []) (x := x) (r := .ent t) s.len
      exact s.base.own a (mem_adr.mpr ⟨_, t, lst.2, ha⟩)
theorem EdR.more {F : Fr} {ps qs : Tm} {d : Ed} {D : Ends} (h : EdR F ps d D) : EdR F (ps ++ qs) d D :=
  ⟨fun σ' I' H' e' h1 s => h.nx σ' I' H' e' h1 s.weak, fun x r σ' I' H' e' h1 s => h.rt x r σ' I' H' e' h1 (ST.drop s), fun σ' I' H' e' h1 s => h.bk σ' I' H' e' h1 s.weak, fun σ' I' H' e' h1 s => h.ct σ' I' H' e' h1 s.weak⟩
section
variable {X : Cx} {F : Fr} {tg it c : Expr} {w : EvI} {g : TgF} {f : SvF} {ft : EvT} {body : List Stmt} {pos : Pos} {sl : List Nat}
theorem ds_for (hp : PassesOwn (model X.prog X.w) X.A X.env X.xe) (hc : X.calm = true) (hi : DI X F tg it w) (hg : DGt X F tg g sl) (hb : DSs X F body f) (hs : ∀ x, foldedSetIterable it X.env x = pure x := by intro _; rfl) : DS X F (.For tg it body [] pos) (sFor w g f) := by
  obtain ⟨wi, pi, di⟩ := hi
  obtain ⟨tg', pg, dg⟩ := hg
  obtain ⟨tb, pb, db⟩ := hb
  refine ⟨_, ps_for hp hc pi pg pb hs, fun σ I H e ps d D hps s h k => ?_⟩
  refine di σ I H e ps _ _ s h fun J ds qs e1 I1 H1 h1 hqs s1 itd => ?_
  obtain ⟨W, w0, turn, fin⟩ := h1
  refine ⟨fun i m σ H => m = ds.length - i ∧ i ≤ ds.length ∧ ∃ e I, W i e ∧ ST F σ I H e (ps ++ qs), ⟨ds.length, by simp, Nat.zero_le _, e1, I1, w0, s1⟩, ?_⟩
  rintro i m σ2 H2 ⟨rfl, hi, e2, I2, w2, s2⟩
  by_cases hlt : i < ds.length
  · refine .inr ⟨itd.go I2 H2 i s2.sub s2.holds hlt, fun σ' H' => ∃ e I, W (i + 1) e ∧ ST F σ' I H' e (ps ++ qs), fun σ' H' ⟨e', I', z1, z2⟩ => ⟨ds.length - (i + 1), by omega, rfl, hlt, e', I', z1, z2⟩, fun x H3 hy => ?_⟩
    obtain ⟨I3, c, g3, hc3, rx⟩ := itd.yld I2 H2 i x H3 s2.sub s2.holds hlt hy
    refine dg x c σ2 I3 H3 e2 (ps ++ qs) _ _ ((imms_app hps hqs).no _) (s2.grow g3) rx (turn i c e2 hc3 w2) fun σ4 e4 h4 s4 _ => ?_
    refine db σ4 I3 H3 e4 (ps ++ qs) _ _ (imms_app hps hqs) s4 h4 ⟨fun σ' I' H' e' h5 s5 => ⟨e', I', h5, s5⟩, fun x r σ' I' H' e' h5 s5 => k.rt x r σ' I' H' e' h5 (ST.drop s5), fun σ' I' H' e' h5 s5 => k.nx σ' I' H' e' h5 s5.weak, fun σ' I' H' e' h5 s5 => ⟨e', I', h5, s5⟩⟩
  · have hi' : i = ds.length := by omega
    subst hi'
    exact .inl ⟨itd.stop I2 H2 s2.sub s2.holds, k.nx σ2 I2 H2 e2 (fin e2 w2) s2.weak⟩
theorem ds_while (hp : PassesOwn (model X.prog X.w) X.A X.env X.xe) (hc : DTe X F c ft) (hb : DSs X F body f) : DS X F (.While c body [] pos) (sWhile ft f) := by
  obtain ⟨tc, pc, dc⟩ := hc
  obtain ⟨tb, pb, db⟩ := hb
  refine ⟨_, ps_while hp pc pb, fun σ I H e ps d D hps s h k => ?_⟩
  obtain ⟨W, ⟨m0, w0⟩, turn⟩ := h
  refine ⟨fun m σ H => ∃ e I, W m e ∧ ST F σ I H e ps, ⟨m0, e, I, w0, s⟩, ?_⟩
  rintro m σ1 H1 ⟨e1, I1, w1, s1⟩
  refine dc σ1 I1 H1 e1 ps _ _ s1 (turn m e1 w1) fun b e2 I2 H2 h2 s2 => ?_
  cases b with
  | true =>
    refine ⟨fun σ' H' => ∃ m', m' < m ∧ ∃ e I, W m' e ∧ ST F σ' I H' e ps, fun σ' H' z => z, ?_⟩
    exact db σ1 I2 H2 e2 ps _ _ hps s2 h2 ⟨fun σ' I' H' e' ⟨m', z1, z2⟩ s5 => ⟨m', z1, e', I', z2, s5⟩, k.rt, k.nx, fun σ' I' H' e' ⟨m', z1, z2⟩ s5 => ⟨m', z1, e', I', z2, s5⟩⟩
  | false => exact k.nx σ1 I2 H2 e2 h2 s2
end
/-! ### list comprehensions -/
def tOf (F : Fr) (f : EvF) : TE := fun σ H Q => ∃ (I : Hp) (e : En) (ps : Tm) (P : Rv → En → Prop), ST F σ I H e ps ∧ f e P ∧ ∀ x r e' I' H', P r e' → ST F σ I' H' e' (ps ++ [(x, r)]) → Q x H'
def tOfT (F : Fr) (f : EvT) : TT := fun σ H Q => ∃ (I : Hp) (e : En) (ps : Tm) (P : Bool → En → Prop), ST F σ I H e ps ∧ f e P ∧ ∀ b e' I' H', P b e' → ST F σ I' H' e' ps → Q b H'
def tOfG (F : Fr) (f : TgF) (sl : List Nat) : TG := fun v σ H Q => ∃ (c : D) (I : Hp) (e : En) (ps : Tm) (P : En → Prop), NoSl sl ps ∧ ST F σ I H e ps ∧ Rep F.K I v c ∧ f c e P ∧ ∀ σ' e', P e' → ST F σ' I H e' ps → SameOut sl σ σ' → Q σ' H
structure DTs (X : Cx) (F : Fr) (ifs : List Expr) (f : EvT) : Prop where
  ex : ∃ t, PTs X ifs t ∧ DTT F t f
def sYes : EvT := fun e P => P true e
section
variable {X : Cx} {F : Fr} {ex : Expr}
theorem DE.tof {f : EvF} (h : DE X F ex f) : PE X ex (tOf F f) := by
  obtain ⟨t, p, d⟩ := h
  exact ⟨fun pins s σ H Q I ⟨I', e, ps, P, st, hf, k⟩ => p.run pins s σ H Q I (d σ I' H e ps P Q st hf k)⟩
theorem DTs.tof {ifs : List Expr} {f : EvT} (h : DTs X F ifs f) : PTs X ifs (tOfT F f) := by
  obtain ⟨t, p, d⟩ := h
  exact ⟨fun pins s σ H Q I ⟨I', e, ps, P, st, hf, k⟩ => p.run pins s σ H Q I (d σ I' H e ps P Q st hf k)⟩
theorem DGt.tof {f : TgF} {sl : List Nat} (h : DGt X F ex f sl) : PG X ex (tOfG F f sl) := by
  obtain ⟨t, p, d⟩ := h
  exact ⟨fun pins s σ H v u Q I r ⟨c, I', e, ps, P, n, st, rc, hf, k⟩ => p.run pins s σ H v u Q I r (d v c σ I' H e ps P Q n st rc hf k)⟩
theorem dts_nil : DTs X F [] sYes := ⟨_, pts_nil, fun σ I H e ps P Q s h k => k true e I H h s⟩
theorem dts_one {f : EvT} (h : DTe X F ex f) : DTs X F [ex] f := by
  obtain ⟨t, p, d⟩ := h
  exact ⟨_, pts_one p, d⟩
end
def wipeE (e : En) : List Nat → En
  | [] => e
  | v :: vs => (wipeE e vs).set v none
/-- the names of a comprehension hold nothing ahead of it -/
def clearB (e : En) (vs : List Nat) : Bool := vs.all fun v => match e[v]? with
  | some (some _) => false
  | _ => true
/-- no exception leaves -/
def Fr.nox (F : Fr) : Fr := ⟨F.K, F.e0, F.I0, F.H0, fun _ _ _ _ => False, fun _ _ _ => False⟩
theorem frok_nox {F : Fr} : FrOk F.nox := fun _ _ _ _ _ _ _ _ _ _ h _ _ => h
section
variable {F : Fr} {σ σ' : L2.St} {I H I' H' : Hp} {e e' : En} {ps qs : Tm} {vs : List Nat}
theorem ST.nox (s : ST F σ I H e ps) : ST F.nox σ I H e ps := ⟨s.sub, s.len, s.env, s.ali, s.base⟩
theorem ST.unnox (s : ST F.nox σ I H e ps) : ST F σ I H e ps := ⟨s.sub, s.len, s.env, s.ali, s.base⟩
theorem wipeE_len : ∀ vs : List Nat, (wipeE e vs).length = e.length
  | [] => rfl
  | v :: vs => by unfold wipeE; rw [List.length_set, wipeE_len vs]
theorem wipeE_some {i : Nat} {t : Ent} : ∀ {vs : List Nat}, (wipeE e vs)[i]? = some (some t) → e[i]? = some (some t) ∧ i ∉ vs
  | [], h => ⟨h, by simp⟩
  | v :: vs, h => by
    unfold wipeE at h
    by_cases hi : i = v
    · subst hi
      have hl := (List.getElem?_eq_some_iff.mp h).1
      rw [List.length_set] at hl
      rw [List.getElem?_set_self hl] at h
      cases h
    · rw [List.getElem?_set_ne (Ne.symm hi)] at h
      obtain ⟨h1, h2⟩ := wipeE_some (vs := vs) h
      exact ⟨h1, by simp [hi, h2]⟩
theorem wipeE_out {i : Nat} : ∀ {vs : List Nat}, i ∉ vs → (wipeE e vs)[i]? = e[i]?
  | [], _ => rfl
  | v :: vs, h => by
    have h1 : v ≠ i := fun c => h (by rw [c]; exact List.mem_cons_self)
    have h2 : i ∉ vs := fun m => h (List.mem_cons_of_mem _ m)
    unfold wipeE
    rw [List.getElem?_set_ne h1]
    exact wipeE_out h2
theorem wipe_same (h : SameOut vs σ σ') : wipe σ' vs = wipe σ vs := by
  refine List.ext_getElem? fun i => ?_
  by_cases hi : i ∈ vs
  · have z : ∀ {τ : L2.St} {us : List Nat}, i ∈ us → (wipe τ us)[i]? = if i < τ.length then some none else none := fun {τ us} => by
      induction us with
      | nil => intro m; simp at m
      | cons v us ih =>
        intro m
        unfold wipe
        by_cases hv : v = i
        · subst hv
          rw [List.getElem?_set]
          simp [wipe_length]
        · rw [List.getElem?_set_ne hv]
          rcases List.mem_cons.mp m with q | q
          · exact absurd q.symm hv
          · exact ih q
    rw [z hi, z hi, h.1]
  · rw [wipe_out hi, wipe_out hi, h.2 i hi]
/-- slots forgotten, or read anew, where nothing is told of them -/
theorem ST.re (s : ST F σ I H e ps) (hl : e'.length = σ'.length) (h1 : ∀ (i : Nat) (t : Ent), e'[i]? = some (some t) → e[i]? = some (some t) ∧ σ'[i]? = σ[i]?) (h2 : ∀ p ∈ ps, ∀ i, p.2 = .slot i → σ'[i]? = σ[i]? ∧ e'[i]? = e[i]?) (hle : σ'.length = σ.length) : ST F σ' I H e' ps := by
  have le : e'.length = e.length := by rw [hl, hle, s.len]
  have h3 : ∀ (i : Nat) (t : Ent), (e' ++ tn ps)[i]? = some (some t) → (e ++ tn ps)[i]? = some (some t) ∧ (σ' ++ tv ps)[i]? = (σ ++ tv ps)[i]? := fun i t q => by
    by_cases hi : i < e'.length
    · rw [List.getElem?_append_left hi] at q
      obtain ⟨z1, z2⟩ := h1 i t q
      refine ⟨by rw [List.getElem?_append_left (by omega)]; exact z1, ?_⟩
      rw [List.getElem?_append_left (by omega), List.getElem?_append_left (by rw [← hle, ← hl]; exact hi)]
      exact z2
    · rw [List.getElem?_append_right (by omega)] at q
      refine ⟨by rw [List.getElem?_append_right (by omega), ← le]; exact q, ?_⟩
      rw [List.getElem?_append_right (by omega), List.getElem?_append_right (by omega), hle]
  have sl := s.env.len
  rw [List.length_append, List.length_append] at sl
  refine ⟨s.sub, hl, ⟨by rw [List.length_append, List.length_append]; omega, fun i t q => ?_, fun i j t u a q1 q2 m1 m2 => s.env.sep i j t u a (h3 i t q1).1 (h3 j u q2).1 m1 m2⟩, fun p hp i q => ?_, ⟨s.base.imm, s.base.keep, fun a ha => s.base.own a ?_, s.base.new⟩⟩
  · obtain ⟨z1, z2⟩ := h3 i t q
    rw [z2]
    exact s.env.at_ i t z1
  · obtain ⟨z1, z2⟩ := h2 p hp i q
    rw [z1, z2]
    exact s.ali p hp i q
  · obtain ⟨i, t, q, m⟩ := mem_adr.mp ha
    exact mem_adr.mpr ⟨i, t, (h3 i t q).1, m⟩
theorem clear_no (s : ST F σ I H e ps) (h : clearB e vs = true) : NoSl vs ps := fun p hp j q m => by
  obtain ⟨_, t, ht⟩ := s.ali p hp j q
  unfold clearB at h
  have z := List.all_eq_true.mp h j m
  rw [ht] at z
  cases z
theorem ST.wipe (s : ST F σ I H e ps) (n : NoSl vs ps) : ST F (L2.wipe σ vs) I H (wipeE e vs) ps :=
  s.re (by rw [wipeE_len, wipe_length]; exact s.len) (fun i t q => by
    obtain ⟨h1, h2⟩ := wipeE_some q
    exact ⟨h1, wipe_out h2⟩) (fun p hp i q => ⟨wipe_out (n p hp i q), wipeE_out (n p hp i q)⟩) (wipe_length ..)
theorem ST.unwipe (s : ST F (L2.wipe σ vs) I H (wipeE e vs) ps) (n : NoSl vs ps) : ST F σ I H (wipeE e vs) ps :=
  s.re (by have := s.len; rw [wipe_length] at this; exact this) (fun i t q => ⟨q, (wipe_out (wipeE_some q).2).symm⟩) (fun p hp i q => ⟨(wipe_out (n p hp i q)).symm, rfl⟩) (wipe_length ..).symm
/-- an own thing that is held beside is changed -/
theorem ST.mutT {a : Addr} {d d' : D} {o : HO} {x : V} (s : ST F σ I H e (ps ++ (x, .ent (.own a d)) :: qs)) (w : OwnR F.K I (upd H a o) a d') : ST F σ I (upd H a o) e (ps ++ (x, .ent (.own a d')) :: qs) := by
  obtain ⟨h1, h2⟩ := tm_at (ps := ps) (qs := qs) (x := x) (r := .ent (.own a d)) s.len
  obtain ⟨g1, g2⟩ := tm_at (σ := σ) (e := e) (ps := ps) (qs := qs) (x := x) (r := .ent (.own a d')) s.len
  have r : EntR F.K I H x (.own a d) := s.temp
  have ec := tn_set (ps := ps) (qs := qs) (x := x) (r := .ent (.own a d)) (r' := .ent (.own a d')) s.len
  have tvq : tv (ps ++ (x, .ent (.own a d)) :: qs) = tv (ps ++ (x, .ent (.own a d')) :: qs) := tv_eq
  have ain : a ∈ adr (e ++ tn (ps ++ (x, .ent (.own a d)) :: qs)) := mem_adr.mpr ⟨_, _, h2, by simp⟩
  have other : ∀ {j : Nat} {u : Ent}, (e ++ tn (ps ++ (x, .ent (.own a d')) :: qs))[j]? = some (some u) → (j = σ.length + ps.length ∧ u = .own a d') ∨ (j ≠ σ.length + ps.length ∧ (e ++ tn (ps ++ (x, .ent (.own a d)) :: qs))[j]? = some (some u)) := fun {j u} q => by
    by_cases hj : j = σ.length + ps.length
    · subst hj
      rw [g2] at q
      cases q
      exact .inl ⟨rfl, rfl⟩
    · rw [← ec, List.getElem?_set_ne (Ne.symm hj)] at q
      exact .inr ⟨hj, q⟩
  have sub_adr : ∀ b, b ∈ adr (e ++ tn (ps ++ (x, .ent (.own a d')) :: qs)) → b ∈ adr (e ++ tn (ps ++ (x, .ent (.own a d)) :: qs)) := fun b hb => by
    obtain ⟨j, u, z, m⟩ := mem_adr.mp hb
    rcases other z with ⟨_, rfl⟩ | ⟨_, z⟩
    · simp at m
      subst m
      exact ain
    · exact mem_adr.mpr ⟨j, u, z, m⟩
  have hlen := s.env.len
  refine ⟨fun b u z => ?_, s.len, ⟨?_, fun j u z => ?_, fun j k u v b z1 z2 m1 m2 => ?_⟩, fun p hp i q => ?_, s.base.trans ⟨Le.refl, fun b u z nb => ?_, fun b hb => .inl (sub_adr b hb), fun b u z => .inl z⟩⟩
  · have hb : b ≠ a := fun w => by rw [w, r.2.1] at z; cases z
    rw [upd_ne hb]
    exact s.sub b u z
  · rw [← ec, List.length_set, hlen, tvq]
  · rcases other z with ⟨rfl, rfl⟩ | ⟨hj, z⟩
    · exact ⟨x, g1, r.1, r.2.1, w⟩
    · obtain ⟨y', e1, e2⟩ := s.env.at_ j u z
      refine ⟨y', by rw [← tvq]; exact e1, e2.mono Le.refl fun b hb => ⟨(e2.has hb).2, fun v hv => ?_⟩⟩
      have hba : b ≠ a := fun w => by
        subst w
        exact hj (s.env.sep j _ u _ b z h2 hb (by simp))
      rw [upd_ne hba]
      exact hv
  · have go : ∀ {j : Nat} {u : Ent}, (e ++ tn (ps ++ (x, .ent (.own a d')) :: qs))[j]? = some (some u) → b ∈ u.adr → ∃ u' : Ent, (e ++ tn (ps ++ (x, .ent (.own a d)) :: qs))[j]? = some (some u') ∧ b ∈ u'.adr := fun {j u} z m => by
      rcases other z with ⟨rfl, rfl⟩ | ⟨hj, z⟩
      · exact ⟨_, h2, m⟩
      · exact ⟨u, z, m⟩
    obtain ⟨u', w1, w2⟩ := go z1 m1
    obtain ⟨v', w3, w4⟩ := go z2 m2
    exact s.env.sep j k u' v' b w1 w3 w2 w4
  · rcases List.mem_append.mp hp with m | m
    · exact s.ali p (List.mem_append_left _ m) i q
    · rcases List.mem_cons.mp m with m | m
      · subst m; cases q
      · exact s.ali p (List.mem_append_right _ (List.mem_cons_of_mem _ m)) i q
  · have hb : b ≠ a := fun w => nb (w ▸ ain)
    rw [upd_ne hb]
    exact z
end
/-- [elt for target in source if ..]: the names' slots vs; W says what is gathered behind i things; elements leave the frame as it is -/
def eLc (w : EvI) (g : TgF) (tt : EvT) (f : EvF) (vs : List Nat) : EvF := fun e P => w e fun ds e1 => clearB e1 vs = true ∧ ds.length ≤ 1000000 ∧ ∃ W : Nat → List D → Prop, W 0 [] ∧
  (∀ i c acc, ds[i]? = some c → W i acc → g c e1 fun e3 => tt e3 fun b e4 => if b = true then f e4 fun r e5 => ∃ d e6, frz e5 r = some (d, e6) ∧ wipeE e6 vs = wipeE e1 vs ∧ W (i + 1) (acc ++ [d]) else wipeE e4 vs = wipeE e1 vs ∧ W (i + 1) acc) ∧
  ∀ acc, W ds.length acc → ∀ a, P (.ent (.own a (.lst acc))) (wipeE e1 vs)
section
variable {X : Cx} {F : Fr} {elt tg iter : Expr} {ifs : List Expr} {scope : Scope} {own : List (Str × Nat)} {pos : Pos} {w : EvI} {g : TgF} {tt : EvT} {f : EvF} {sl : List Nat}
theorem DT.lc {wi : TI} {vs : List Nat} (hw : DTI F wi w) (hsl : ∀ j ∈ sl, j ∈ vs) : DT F (tLc wi (tOfG F.nox g sl) (tOfT F.nox tt) (tOf F.nox f) vs) (eLc w g tt f vs) := fun σ I H e ps P Q s h k => by
  refine hw σ I H e ps _ _ s h fun J ds qs e1 I1 H1 h1 hqs s1 itd => ?_
  obtain ⟨hcl, hz, W, w0, turn, fin⟩ := h1
  have nps : NoSl vs (ps ++ qs) := clear_no s1 hcl
  intro D hD
  have sW := s1.wipe nps
  have s0 : ST F (L2.wipe σ vs) I1 (upd H1 D (.lst [])) (wipeE e1 vs) (ps ++ qs ++ [(V.ref D, .ent (.own D (.lst [])))]) := sW.pushG (t := .own D (.lst [])) (Grow.alloc s1.sub hD) ⟨rfl, s1.sub.none hD, [], upd_same, .nil⟩ fun a ha => by simp at ha; subst ha; exact hD
  have nD : ∀ acc : List TK.D, NoSl vs (ps ++ qs ++ [(V.ref D, .ent (.own D (.lst acc)))]) := fun acc p hp j q => by
    rcases List.mem_append.mp hp with m | m
    · exact nps p m j q
    · rw [List.mem_singleton] at m
      subst m
      cases q
  have wE : wipeE e1 vs = e1 := by
    refine List.ext_getElem? fun i => ?_
    by_cases hi : i ∈ vs
    · have z := List.all_eq_true.mp hcl i hi
      have lw := wipeE_len (e := e1) vs
      cases q : e1[i]? with
      | none =>
        rw [List.getElem?_eq_none_iff] at q ⊢
        omega
      | some o =>
        cases o with
        | some t => rw [q] at z; cases z
        | none =>
          cases q2 : (wipeE e1 vs)[i]? with
          | none =>
            rw [List.getElem?_eq_none_iff] at q2
            have := (List.getElem?_eq_some_iff.mp q).1
            omega
          | some o2 =>
            cases o2 with
            | none => rfl
            | some t => exact absurd hi (wipeE_some q2).2
    · exact wipeE_out hi
  refine ⟨fun i m H => m = ds.length - i ∧ i ≤ ds.length ∧ ∃ (acc : List TK.D) (I : Hp), acc.length ≤ i ∧ W i acc ∧ ST F (L2.wipe σ vs) I H (wipeE e1 vs) (ps ++ qs ++ [(V.ref D, .ent (.own D (.lst acc)))]), ⟨ds.length, by simp, Nat.zero_le _, [], I1, Nat.zero_le _, w0, s0⟩, ?_⟩
  rintro i m H2 ⟨rfl, hi, acc, I2, hacc, w2, s2⟩
  have hold : Holds F.K I2 qs := (ST.weak (ps := ps ++ qs) s2).holds
  by_cases hlt : i < ds.length
  · refine .inr ⟨itd.go I2 H2 i s2.sub hold hlt, fun H' => ∃ (acc : List TK.D) (I : Hp), acc.length ≤ i + 1 ∧ W (i + 1) acc ∧ ST F (L2.wipe σ vs) I H' (wipeE e1 vs) (ps ++ qs ++ [(V.ref D, .ent (.own D (.lst acc)))]), fun H' z => ⟨ds.length - (i + 1), by omega, rfl, hlt, z⟩, fun x H3 hy => ?_⟩
    obtain ⟨I3, c, g3, hc3, rx⟩ := itd.yld I2 H2 i x H3 s2.sub hold hlt hy
    have s3 := (s2.grow g3).nox
    have tu := turn i c acc hc3 w2
    rw [← wE] at tu
    refine ⟨c, I3, wipeE e1 vs, _, _, fun p hp j q m => nD acc p hp j q (hsl j m), s3, rx, tu, fun σ4 e4 h4 s4 so => ?_⟩
    rw [wE] at h4
    have sw : wipe σ4 vs = wipe σ vs := by
      have z := wipe_same (vs := vs) (σ := L2.wipe σ vs) (σ' := σ4) ⟨so.1, fun j hj => so.2 j fun m => hj (hsl j m)⟩
      rw [z]
      exact wipe_same (vs := vs) ⟨wipe_length .., fun j hj => wipe_out hj⟩
    refine ⟨sw, I3, e4, _, _, s4, h4, fun b e5 I5 H5 h5 s5 => ?_⟩
    cases b with
    | false =>
      obtain ⟨q1, q2⟩ := h5
      have s6 := s5.unnox.wipe (vs := vs) (nD acc)
      rw [sw, q1] at s6
      exact ⟨acc, I5, by omega, q2, s6⟩
    | true =>
      refine ⟨I5, e5, _, _, s5, h5, fun y r e6 I6 H6 h6 s6 => ?_⟩
      obtain ⟨d, e7, hf, q1, q2⟩ := h6
      obtain ⟨I7, _, s7⟩ := s6.unnox.frz hf
      have ry : Rep F.K I7 y d := ST.temp (qs := []) (t := .imm d) s7
      have s8 := ST.weak s7
      have rD : EntR F.K I7 H6 (.ref D) (.own D (.lst acc)) := ST.temp (ps := ps ++ qs) (qs := []) s8
      obtain ⟨_, _, xs, hx, rr⟩ := rD
      have lx := rr.len
      refine ⟨xs, hx, by rw [lx]; exact Nat.lt_of_le_of_lt (m := 1000000) (by omega) (by decide), acc ++ [d], I7, by simp; omega, q2, ?_⟩
      have s9 := ST.mutT (ps := ps ++ qs) (qs := []) (d' := .lst (acc ++ [d])) (o := .lst (xs ++ [y])) s8 ⟨xs ++ [y], upd_same, rr.app (.cons ry .nil)⟩
      have s10 := s9.wipe (vs := vs) (nD _)
      rw [sw, q1] at s10
      exact s10
  · have hi' : i = ds.length := by omega
    subst hi'
    refine .inl ⟨itd.stop I2 H2 s2.sub hold, ?_⟩
    exact k _ _ _ I2 H2 (fin acc w2 D) (ST.drop ((s2.unwipe (nD acc))))
end
/-! ### comprehensions as expressions and stored -/
section
variable {X : Cx} {F : Fr} {elt tg iter : Expr} {ifs : List Expr} {scope : Scope} {own : List (Str × Nat)} {pos : Pos} {w : EvI} {g : TgF} {tt : EvT} {f : EvF} {sl : List Nat}
theorem de_lc (hc : X.calm = true) (hN : X.N.Nodup) (hi : DI X F tg iter w) (ok : BlkOk X.N X.env.scope scope own)
    (hg : ∀ (s : Shared) (H : Hp) (C : Addr) (cl : List (Str × Addr)) (fp : List Addr), DGt (X.blk s H scope (compEnvC scope cl C X.env) fp) F.nox tg g sl) (ht : ∀ (s : Shared) (H : Hp) (C : Addr) (cl : List (Str × Addr)) (fp : List Addr), DTs (X.blk s H scope (compEnvC scope cl C X.env) fp) F.nox ifs tt)
    (he : ∀ (s : Shared) (H : Hp) (C : Addr) (cl : List (Str × Addr)) (fp : List Addr), DE (X.blk s H scope (compEnvC scope cl C X.env) fp) F.nox elt f) (hsl : (sl.all fun j => (own.map (·.2)).contains j) = true) (hs : ∀ x, foldedSetIterable iter X.env x = pure x := by intro _; rfl) :
    DE X F (.ListComp elt [⟨tg, iter, ifs, 0⟩] scope pos) (eLc w g tt f (own.map (·.2))) := by
  obtain ⟨wi, pi, di⟩ := hi
  exact ⟨_, pe_lc hc hN pi ok (fun s H C cl fp => (hg s H C cl fp).tof) (fun s H C cl fp => (ht s H C cl fp).tof) (fun s H C cl fp => (he s H C cl fp).tof) hs, DT.lc di fun j hj => List.contains_iff_mem.mp (List.all_eq_true.mp hsl j hj)⟩
theorem ds_setLc {i : Nat} {y : Str} {py spos : Pos} (hc : X.calm = true) (hN : X.N.Nodup) (hy : X.N[i]? = some y) (hyl : X.env.scope.names.lookup y = some .local)
    (hsw : swapsWith (.ListComp elt [⟨tg, iter, ifs, 0⟩] scope pos) (some (.Name y py)) spos.line X.env = pure true) (hi : DI X F tg iter w) (ok : BlkOk X.N X.env.scope scope own)
    (hg : ∀ (s : Shared) (H : Hp) (C : Addr) (cl : List (Str × Addr)) (fp : List Addr), DGt (X.blk s H scope (compEnvC scope cl C X.env) fp) F.nox tg g sl) (ht : ∀ (s : Shared) (H : Hp) (C : Addr) (cl : List (Str × Addr)) (fp : List Addr), DTs (X.blk s H scope (compEnvC scope cl C X.env) fp) F.nox ifs tt)
    (he : ∀ (s : Shared) (H : Hp) (C : Addr) (cl : List (Str × Addr)) (fp : List Addr), DE (X.blk s H scope (compEnvC scope cl C X.env) fp) F.nox elt f) (hsl : (sl.all fun j => (own.map (·.2)).contains j) = true) (hs : ∀ x, foldedSetIterable iter X.env x = pure x := by intro _; rfl) :
    DS X F (.Assign [.Name y py] (.ListComp elt [⟨tg, iter, ifs, 0⟩] scope pos) spos) (sSet i (eLc w g tt f (own.map (·.2)))) := by
  obtain ⟨wi, pi, di⟩ := hi
  refine ⟨_, ps_setLc hc hN hy hyl hsw pi ok (fun s H C cl fp => (hg s H C cl fp).tof) (fun s H C cl fp => (ht s H C cl fp).tof) (fun s H C cl fp => (he s H C cl fp).tof) hs, fun σ I H e ps d D hp s h k => ?_⟩
  refine DT.lc di (fun j hj => List.contains_iff_mem.mp (List.all_eq_true.mp hsl j hj)) σ I H e ps _ _ s h fun x r e1 I1 H1 h1 s1 => ?_
  obtain ⟨e2, ha, h2⟩ := h1
  obtain ⟨I2, s2⟩ := s1.asg (hp.no _) ha
  exact k.nx _ I2 H1 e2 h2 s2
end
/-! ### lists changed -/
abbrev DMo := List D → List D → (List D → D → Prop) → Prop
def DMt (K : PySem.W.Frag) (r : V → List V → Hp → VK → Prop) (o : DMo) : Prop := ∀ (I H : Hp) (a : Addr) (xs ys : List V) (ds cs : List D) (P : List D → D → Prop) (Q : VK), Sub I H → I a = none → H a = some (.lst xs) → Reps K I xs ds → Reps K I ys cs → o ds cs P →
  (∀ xs' ds' y d, P ds' d → Reps K I xs' ds' → Rep K I y d → Q y (upd H a (.lst xs'))) → r (.ref a) ys H Q
def eMut (i : Nat) (o : DMo) (g : EvA) : EvF := fun e P => (∃ a ds, e[i]? = some (some (.own a (.lst ds)))) ∧ g e fun rs e1 => ∃ cs e2 a ds, frzs e1 rs = some (cs, e2) ∧ e2[i]? = some (some (.own a (.lst ds))) ∧ o ds cs fun ds' d => P (.im d) (e2.set i (some (.own a (.lst ds'))))
def eMut0 (i : Nat) (o : DMo) : EvF := fun e P => ∃ a ds, e[i]? = some (some (.own a (.lst ds))) ∧ o ds [] fun ds' d => P (.im d) (e.set i (some (.own a (.lst ds'))))
def mAppend : DMo := fun ds cs P => ∃ c, cs = [c] ∧ ds.length ≤ 1000000 ∧ P (ds ++ [c]) .non
def mExtend : DMo := fun ds cs P => ∃ xs, cs = [.lst xs] ∧ ds.length + xs.length ≤ 1000000 ∧ P (ds ++ xs) .non
def mInsert : DMo := fun ds cs P => ∃ i c, cs = [.int i, c] ∧ ds.length ≤ 1000000 ∧ 0 ≤ i ∧ i ≤ 1000000 ∧ P (ds.take i.toNat ++ [c] ++ ds.drop i.toNat) .non
def mReverse : DMo := fun ds cs P => cs = [] ∧ P ds.reverse .non
def mClear : DMo := fun _ cs P => cs = [] ∧ P [] .non
def mPop : DMo := fun ds cs P => cs = [] ∧ ∃ c, ds[ds.length - 1]? = some c ∧ P ds.dropLast c
section
variable {K : PySem.W.Frag}
theorem small6 {n : Nat} (h : n ≤ 1000000) : n < sizeLine := Nat.lt_of_le_of_lt h (by decide)
theorem dm_append : DMt K rAppend mAppend := fun I H a xs ys ds cs P Q s n ha r1 r2 h k => by
  obtain ⟨c, rfl, hz, p⟩ := h
  cases r2 with
  | cons r r2 =>
    cases r2
    exact ⟨a, xs, _, rfl, rfl, ha, by rw [r1.len]; exact small6 hz, k _ _ _ _ p (r1.app (.cons r .nil)) .non⟩
theorem dm_extend : DMt K rExtend mExtend := fun I H a xs ys ds cs P Q s n ha r1 r2 h k => by
  obtain ⟨c, rfl, hz, p⟩ := h
  cases r2 with
  | cons r r2 =>
    cases r2
    cases r with
    | @lst b zs _ hb rr => exact ⟨a, b, xs, zs, rfl, rfl, ha, s _ _ hb, by rw [r1.len, rr.len]; exact Nat.le_of_lt (small6 hz), k _ _ _ _ p (r1.app rr) .non⟩
theorem dm_insert : DMt K rInsert mInsert := fun I H a xs ys ds cs P Q s n ha r1 r2 h k => by
  obtain ⟨i, c, rfl, hz, h0, h1, p⟩ := h
  cases r2 with
  | cons r r2 =>
    cases r2 with
    | cons r' r2 =>
      cases r2
      cases r
      exact ⟨a, xs, i, _, rfl, rfl, ha, by rw [r1.len]; exact small6 hz, h0, Int.lt_of_le_of_lt h1 (by decide), k _ _ _ _ p (((r1.take _).app (.cons r' .nil)).app (r1.drop _)) .non⟩
theorem dm_reverse : DMt K rReverse mReverse := fun I H a xs ys ds cs P Q s n ha r1 r2 h k => by
  obtain ⟨rfl, p⟩ := h
  cases r2
  exact ⟨a, xs, rfl, rfl, ha, k _ _ _ _ p r1.rev .non⟩
theorem dm_clear : DMt K rClear mClear := fun I H a xs ys ds cs P Q s n ha r1 r2 h k => by
  obtain ⟨rfl, p⟩ := h
  cases r2
  exact ⟨a, xs, rfl, rfl, ha, k _ _ _ _ p .nil .non⟩
theorem Reps.dropLast {I : Hp} {xs : List V} {ds : List D} (r : Reps K I xs ds) : Reps K I xs.dropLast ds.dropLast := by
  rw [List.dropLast_eq_take, List.dropLast_eq_take, r.len]
  exact r.take _
theorem dm_pop : DMt K rPop mPop := fun I H a xs ys ds cs P Q s n ha r1 r2 h k => by
  obtain ⟨rfl, c, hc, p⟩ := h
  cases r2
  obtain ⟨x, e1, e2⟩ := r1.get hc
  exact ⟨a, xs, x, rfl, rfl, ha, by rw [r1.len]; exact e1, k _ _ _ _ p r1.dropLast e2⟩
end
theorem ST.ownL {F : Fr} {σ : L2.St} {I H : Hp} {e : En} {ps : Tm} {i : Nat} {a : Addr} {ds : List D} (s : ST F σ I H e ps) (q : e[i]? = some (some (.own a (.lst ds)))) : σ[i]? = some (some (.ref a)) ∧ I a = none ∧ ∃ xs, H a = some (.lst xs) ∧ Reps F.K I xs ds := by
  obtain ⟨y, y1, rfl, n, xs, h, r⟩ := s.slot q
  exact ⟨y1, n, xs, h, r⟩
theorem ST.mutL {F : Fr} {σ : L2.St} {I H : Hp} {e : En} {ps : Tm} {i : Nat} {a : Addr} {ds ds' : List D} {xs' : List V} (s : ST F σ I H e ps) (q : e[i]? = some (some (.own a (.lst ds)))) (r : Reps F.K I xs' ds') : ST F σ I (upd H a (.lst xs')) (e.set i (some (.own a (.lst ds')))) ps :=
  s.mut q ⟨xs', upd_same, r⟩
section
variable {X : Cx} {F : Fr} {i : Nat} {x m : Str} {p apos cpos : Pos} {ex : Expr} {exs : List Expr} {o : DMo} {g : EvA} {r : V → List V → Hp → VK → Prop} {id : String}
theorem de_mut (slot : Slot "list" m id) (hty : typeOf (.builtin id) = pure (.type "method_descriptor")) (hm : MtR X id r) (ho : DMt X.K r o) (ht : PE X (.Name x p) (tVar i)) (ha : DA X F (ex :: exs) g) (hK : F.K = X.K := by first | rfl | assumption)
    (hbase : attributeBase (.Name x p) m X.env (eval (.Name x p) X.env) = eval (.Name x p) X.env := by rfl)
    (hfew : ((backTo cpos (starEach (ex :: exs) X.env)).all (fun x => !x.1) && (backToKw cpos (keywordEach [] X.env)).all (fun x => x.1.isSome) && decide ((ex :: exs).length + ([] : List Keyword).length + (if ([] : List Keyword).isEmpty then 0 else 1) < 30)) = true := by rfl)
    (hline : (apos.endLine == cpos.line) = true := by rfl) (hs : starEach (ex :: exs) X.env = (false, eval ex X.env) :: starEach exs X.env := by rfl) (hplain : (backTo cpos (starEach exs X.env)).any (·.1) = false := by rfl) :
    DE X F (.Call (.Attribute (.Name x p) m apos) (ex :: exs) [] cpos) (eMut i o g) := by
  obtain ⟨t, pa, d⟩ := ha
  refine ⟨_, pe_bm PySem.F.plainAttrs_list slot hty hm ht pa hbase hfew hline hs hplain, fun σ I H e ps P Q s h k => ?_⟩
  obtain ⟨⟨a0, ds0, h0⟩, h⟩ := h
  obtain ⟨y1, _, xs0, hx0, _⟩ := s.ownL h0
  refine ⟨.ref a0, y1, .inl ⟨rfl, xs0, SqL.of hx0⟩, ?_⟩
  refine d σ I H e ps _ _ s h fun ys rs e1 I1 H1 h1 hl s1 => ?_
  obtain ⟨cs, e2, a, ds, hf, he, hq⟩ := h1
  obtain ⟨I2, _, s2, rr⟩ := s1.frzs hl hf
  obtain ⟨z1, n, xs, hx, rx⟩ := s2.ownL he
  rw [y1] at z1
  cases z1
  rw [hK] at rx rr
  refine ho I2 H1 a0 xs ys ds cs _ _ s2.sub n hx rx rr hq fun xs' ds' y c hp r' ry => ?_
  rw [← hK] at r' ry
  exact k y _ _ I2 _ hp ((s2.mutL he r').pushI ry)
theorem de_mut0 (slot : Slot "list" m id) (hty : typeOf (.builtin id) = pure (.type "method_descriptor")) (hm : MtR X id r) (ho : DMt X.K r o) (ht : PE X (.Name x p) (tVar i)) (hK : F.K = X.K := by first | rfl | assumption)
    (hbase : attributeBase (.Name x p) m X.env (eval (.Name x p) X.env) = eval (.Name x p) X.env := by rfl)
    (hline : (apos.endLine == cpos.line) = true := by rfl) :
    DE X F (.Call (.Attribute (.Name x p) m apos) [] [] cpos) (eMut0 i o) := by
  refine ⟨_, pe_bm0 PySem.F.plainAttrs_list slot hty hm ht hbase (hline := hline), fun σ I H e ps P Q s h k => ?_⟩
  obtain ⟨a, ds, he, hq⟩ := h
  obtain ⟨z1, n, xs, hx, rx⟩ := s.ownL he
  refine ⟨.ref a, z1, .inl ⟨rfl, xs, SqL.of hx⟩, ?_⟩
  rw [hK] at rx
  refine ho I H a xs [] ds [] _ _ s.sub n hx rx .nil hq fun xs' ds' y c hp r' ry => ?_
  rw [← hK] at r' ry
  exact k y _ _ I _ hp ((s.mutL he r').pushI ry)
end
/-- xs[i] = v -/
def sSetIx (i : Nat) (fi fv : EvF) : SvF := fun e d => fv e fun rv e1 => (∃ a ds, e1[i]? = some (some (.own a (.lst ds)))) ∧ fi e1 fun ri e2 => ∃ c e3 a ds z j, val e2 ri = some (.int z) ∧ frz e2 rv = some (c, e3) ∧ e3[i]? = some (some (.own a (.lst ds))) ∧ ixN ds.length z = some j ∧ d.nx (e3.set i (some (.own a (.lst (ds.set j c)))))
section
variable {X : Cx} {F : Fr} {i : Nat} {x : Str} {p pos pos' : Pos} {vx ix : Expr} {fv fi : EvF}
theorem ds_setIx (ht : PE X (.Name x p) (tVar i)) (hi : DE X F ix fi) (hv : DE X F vx fv) (hs : swapsWithSole [.Subscript (.Name x p) ix pos'] vx pos.line X.env = pure false := by rfl) (hw : swappedStores [.Subscript (.Name x p) ix pos'] vx X.env = pure none := by rfl)
    (h1 : (assignEach [.Subscript (.Name x p) ix pos'] X.env).map (·.2) = [assign (.Subscript (.Name x p) ix pos') X.env] := by rfl)
    (ha : ∀ v, assign (.Subscript (.Name x p) ix pos') X.env v = (do
      let ov ← holding [v] (eval (.Name x p) X.env)
      let iv ← holding [v, ov] (eval ix X.env)
      standAt pos'
      holding [v, ov, iv] (setItem ov iv v)
      release [v, ov, iv] []) := by intro _; rfl) : DS X F (.Assign [.Subscript (.Name x p) ix pos'] vx pos) (sSetIx i fi fv) := by
  obtain ⟨ti, pi, di⟩ := hi
  obtain ⟨tw, pw, dw⟩ := hv
  refine ⟨_, ps_asg pw (pg_sub ht pi set_list ha) hs hw h1, fun σ I H e ps d D hp s h k => ?_⟩
  refine dw σ I H e ps _ _ s h fun v rv e1 I1 H1 h1 s1 => ?_
  obtain ⟨⟨a0, ds0, h0⟩, h1⟩ := h1
  obtain ⟨y1, _, xs0, hx0, _⟩ := s1.ownL h0
  refine ⟨.ref a0, y1, ?_⟩
  refine di σ I1 H1 e1 _ _ _ s1 h1 fun w ri e2 I2 H2 h2 s2 => ?_
  obtain ⟨c, e3, a, ds, z, j, v1, hf, he, hj, hn⟩ := h2
  have wi := (s2.vw (qs := []) v1).int
  rw [List.append_assoc] at s2
  obtain ⟨I3, _, s3⟩ := s2.frz hf
  have rc : Rep F.K I3 v c := s3.temp
  obtain ⟨z1, n, xs, hx, rx⟩ := s3.ownL he
  rw [y1] at z1
  cases z1
  refine ⟨a0, xs, z, j, rfl, wi, hx, by rw [rx.len]; exact hj, ?_⟩
  exact k.nx _ I3 _ _ hn ((s3.mutL he (rx.set rc j)).weak)
end
/-! ### dicts -/
def keyS : D → Option Key
  | .int i => some (.inl i)
  | .str x => some (.inr x)
  | _ => none
def keysS : List D → Option (List Key)
  | [] => some []
  | d :: ds => match keyS d with
    | some k => match keysS ds with
      | some ks => some (k :: ks)
      | none => none
    | none => none
def keyT : D → Option (List Key)
  | .tup ds => keysS ds
  | _ => none
def lookD {κ : Type} [DecidableEq κ] (es : List (κ × D)) (k : κ) : Option D := (es.find? fun p => decide (p.1 = k)).map (·.2)
def putD {κ : Type} [DecidableEq κ] (es : List (κ × D)) (k : κ) (v : D) : List (κ × D) := if (es.any fun p => decide (p.1 = k)) = true then es.map (fun p => if p.1 = k then (p.1, v) else p) else es ++ [(k, v)]
section
variable {K : PySem.W.Frag} {I : Hp} {κ : Type} [DecidableEq κ]
theorem keyS_rep {x : V} {d : D} {k : Key} (r : Rep K I x d) (h : keyS d = some k) : x = kV k := by
  cases r <;> cases h <;> rfl
theorem keysS_rep : ∀ {xs : List V} {ds : List D} {ks : List Key}, Reps K I xs ds → keysS ds = some ks → xs = ks.map kV
  | _, _, _, .nil, h => by cases h; rfl
  | _, _, _, .cons (x := x) (d := d) r rr, h => by
    unfold keysS at h
    split at h
    · rename_i k hk
      split at h
      · rename_i ks' hks
        cases h
        rw [List.map_cons, keyS_rep r hk, keysS_rep rr hks]
      · cases h
    · cases h
theorem look_rel {k : κ} : ∀ {kvs : List (κ × V)} {es : List (κ × D)}, kvs.map (·.1) = es.map (·.1) → Reps K I (kvs.map (·.2)) (es.map (·.2)) → (valV kvs k = none ∧ lookD es k = none) ∨ ∃ x d, valV kvs k = some x ∧ lookD es k = some d ∧ Rep K I x d
  | [], [], _, _ => .inl ⟨rfl, rfl⟩
  | [], _ :: _, m, _ => by cases m
  | _ :: _, [], m, _ => by cases m
  | (g, x) :: kvs, (g', d) :: es, m, r => by
    rw [List.map_cons, List.map_cons] at m r
    injection m with m1 m2
    have m1' : g = g' := m1
    subst m1'
    cases r with
    | cons r1 r2 =>
      by_cases h : g = k
      · refine .inr ⟨x, d, valV_pos h, ?_, r1⟩
        unfold lookD
        simp [List.find?_cons, h]
      · rw [valV_neg h, show lookD ((g, d) :: es) k = lookD es k by unfold lookD; simp [List.find?_cons, h]]
        exact look_rel m2 r2
theorem any_rel {k : κ} : ∀ {kvs : List (κ × V)} {es : List (κ × D)}, kvs.map (·.1) = es.map (·.1) → (kvs.any fun p => decide (p.1 = k)) = (es.any fun p => decide (p.1 = k))
  | [], [], _ => rfl
  | [], _ :: _, m => by cases m
  | _ :: _, [], m => by cases m
  | (g, x) :: kvs, (g', d) :: es, m => by
    rw [List.map_cons, List.map_cons] at m
    injection m with m1 m2
    have m1' : g = g' := m1
    subst m1'
    rw [List.any_cons, List.any_cons, any_rel m2]
theorem put_rel {k : κ} {x : V} {d : D} (rx : Rep K I x d) {kvs : List (κ × V)} {es : List (κ × D)} (m : kvs.map (·.1) = es.map (·.1)) (r : Reps K I (kvs.map (·.2)) (es.map (·.2))) :
    (putK kvs k x).map (·.1) = (putD es k d).map (·.1) ∧ Reps K I ((putK kvs k x).map (·.2)) ((putD es k d).map (·.2)) := by
  have go : ∀ {kvs : List (κ × V)} {es : List (κ × D)}, kvs.map (·.1) = es.map (·.1) → Reps K I (kvs.map (·.2)) (es.map (·.2)) →
      (kvs.map (fun kv => if kv.1 = k then (kv.1, x) else kv)).map (·.1) = (es.map (fun p => if p.1 = k then (p.1, d) else p)).map (·.1) ∧ Reps K I ((kvs.map (fun kv => if kv.1 = k then (kv.1, x) else kv)).map (·.2)) ((es.map (fun p => if p.1 = k then (p.1, d) else p)).map (·.2)) := fun {kvs} => by
    induction kvs with
    | nil =>
      intro es m r
      cases es with
      | nil => exact ⟨rfl, .nil⟩
      | cons _ _ => cases m
    | cons p kvs ih =>
      intro es m r
      cases es with
      | nil => cases m
      | cons q es =>
        rw [List.map_cons, List.map_cons] at m r
        injection m with m1 m2
        cases r with
        | cons r1 r2 =>
          obtain ⟨i1, i2⟩ := ih m2 r2
          rw [List.map_cons, List.map_cons, List.map_cons, List.map_cons, List.map_cons, List.map_cons]
          by_cases h : p.1 = k
          · rw [if_pos h, if_pos (m1 ▸ h)]
            exact ⟨by rw [i1, m1], .cons rx i2⟩
          · rw [if_neg h, if_neg (m1 ▸ h)]
            exact ⟨by rw [i1, m1], .cons r1 i2⟩
  unfold putK putD
  rw [any_rel m]
  split
  · exact go m r
  · refine ⟨by rw [List.map_append, List.map_append, m]; rfl, ?_⟩
    rw [List.map_append, List.map_append]
    exact r.app (.cons rx .nil)
end
/-- the dict read: what stands at the key -/
def dLook : D → D → (Option D → Prop) → Prop
  | .dic es, kd, P => ∃ k, keyT kd = some k ∧ P (lookD es k)
  | .dik es, kd, P => ∃ k, keyS kd = some k ∧ P (lookD es k)
  | _, _, _ => False
theorem dget_of {K : PySem.W.Frag} {I H : Hp} {x y : V} {c d : D} {P : Option D → Prop} (s : Sub I H) (v1 : VwR K I H x c) (v2 : VwR K I H y d) (h : dLook c d P) :
    ∃ a o p, x = .ref a ∧ IsD H a ∧ DGet H a y o ∧ P p ∧ ((o = none ∧ p = none) ∨ ∃ z q, o = some z ∧ p = some q ∧ Rep K I z q) := by
  cases c with
  | dic es =>
    obtain ⟨k, hk, p⟩ := h
    obtain ⟨a, kvs, rfl, ha, m, r⟩ := v1.dic s
    cases d with
    | tup ds =>
      obtain ⟨b, xs, rfl, hb, rr⟩ := v2.tup s
      have e := keysS_rep rr hk
      subst e
      refine ⟨a, _, _, rfl, .inr ⟨kvs, .inl ha⟩, DGet.t (k := k) ha hb, p, ?_⟩
      rcases look_rel (k := k) m r with ⟨h1, h2⟩ | ⟨z, q, h1, h2, h3⟩
      · exact .inl ⟨h1, h2⟩
      · exact .inr ⟨z, q, h1, h2, h3⟩
    | _ => cases hk
  | dik es =>
    obtain ⟨k, hk, p⟩ := h
    obtain ⟨a, kvs, rfl, ha, m, r⟩ := v1.dik s
    have e : y = kV k := by
      cases d with
      | int i => cases hk; exact v2.int
      | str z => cases hk; exact v2.str
      | _ => cases hk
    subst e
    refine ⟨a, _, _, rfl, .inl ⟨kvs, .inl ha⟩, DGet.k (k := k) ha, p, ?_⟩
    rcases look_rel (k := k) m r with ⟨h1, h2⟩ | ⟨z, q, h1, h2, h3⟩
    · exact .inl ⟨h1, h2⟩
    · exact .inr ⟨z, q, h1, h2, h3⟩
  | _ => exact h.elim
def eDGet (fd fk : EvF) : EvF := fun e P => fd e fun r1 e1 => fk e1 fun r2 e2 => ∃ c d, val e2 r1 = some c ∧ val e2 r2 = some d ∧ dLook c d fun p => ∃ q, p = some q ∧ P (.im q) e2
def eDIn (fk fd : EvF) : EvF := fun e P => fk e fun r1 e1 => fd e1 fun r2 e2 => ∃ d c, val e2 r1 = some d ∧ val e2 r2 = some c ∧ dLook c d fun p => P (.im (.bl p.isSome)) e2
def eDNin (fk fd : EvF) : EvF := fun e P => fk e fun r1 e1 => fd e1 fun r2 e2 => ∃ d c, val e2 r1 = some d ∧ val e2 r2 = some c ∧ dLook c d fun p => P (.im (.bl !p.isSome)) e2
def eDGet1 (fd fk : EvF) : EvF := fun e P => fd e fun r1 e1 => (∃ c, val e1 r1 = some c ∧ ((∃ es, c = .dic es) ∨ ∃ es, c = .dik es)) ∧ fk e1 fun r2 e2 => ∃ c d, val e2 r1 = some c ∧ val e2 r2 = some d ∧ dLook c d fun p => P (.im (p.getD .non)) e2
def eDGet2 (fd fk fx : EvF) : EvF := fun e P => fd e fun r1 e1 => (∃ c, val e1 r1 = some c ∧ ((∃ es, c = .dic es) ∨ ∃ es, c = .dik es)) ∧ fk e1 fun r2 e2 => fx e2 fun r3 e3 => ∃ c d q e4, val e3 r1 = some c ∧ val e3 r2 = some d ∧ frz e3 r3 = some (q, e4) ∧ dLook c d fun p => P (.im (p.getD q)) e4
def sDput (i : Nat) (fk fv : EvF) : SvF := fun e d => fv e fun rv e1 => (∃ t, e1[i]? = some (some t)) ∧ fk e1 fun rk e2 => ∃ c e3 kd e4 a, frz e2 rv = some (c, e3) ∧ frz e3 rk = some (kd, e4) ∧
  ((∃ es k, e4[i]? = some (some (.own a (.dic es))) ∧ keyT kd = some k ∧ es.length ≤ 1000000 ∧ d.nx (e4.set i (some (.own a (.dic (putD es k c)))))) ∨
   ∃ es k, e4[i]? = some (some (.own a (.dik es))) ∧ keyS kd = some k ∧ es.length ≤ 1000000 ∧ d.nx (e4.set i (some (.own a (.dik (putD es k c))))))
section
variable {X : Cx} {F : Fr} {a b c : Expr} {f g h : EvF} {pos : Pos}
theorem de_dget (hu : X.A.units + 1 < cLine) (h1 : DE X F a f) (h2 : DE X F b g) (hs : L2.NoSl b := by exact (fun _ _ => rfl)) : DE X F (.Subscript a b pos) (eDGet f g) := by
  obtain ⟨t1, p1, d1⟩ := h1
  obtain ⟨t2, p2, d2⟩ := h2
  refine ⟨_, pe_dget hu p1 p2 hs, fun σ I H e ps P Q s h k => ?_⟩
  refine d1 σ I H e ps _ _ s h fun x r1 e1 I1 H1 h1 s1 => ?_
  refine d2 σ I1 H1 e1 _ _ _ s1 h1 fun y r2 e2 I2 H2 h2 s2 => ?_
  obtain ⟨c, d, v1, v2, q⟩ := h2
  have s2' := s2
  rw [List.append_assoc] at s2'
  obtain ⟨a', o, p, rfl, _, hg, ⟨q', rfl, hp⟩, z⟩ := dget_of s2.sub (s2'.vw v1) (s2.vw (qs := []) v2) q
  rcases z with ⟨_, z⟩ | ⟨w, q2, rfl, z, rw'⟩
  · cases z
  · cases z
    exact ⟨a', w, rfl, hg, k w _ e2 I2 H2 hp (s2.weak.weak.pushI rw')⟩
theorem dinT {ta tb : TE} {neg : Bool} {ff : EvF → EvF → EvF} (d1 : DT F ta g) (d2 : DT F tb f) : DT F (fun σ H Q => ta σ H fun y H1 => tb σ H1 fun x H2 => ∃ a o, x = .ref a ∧ DGet H2 a y o ∧ Q (.bl (if neg then !o.isSome else o.isSome)) H2)
    (fun e P => g e fun r1 e1 => f e1 fun r2 e2 => ∃ d c, val e2 r1 = some d ∧ val e2 r2 = some c ∧ dLook c d fun p => P (.im (.bl (if neg then !p.isSome else p.isSome))) e2) := fun σ I H e ps P Q s h k => by
  refine d1 σ I H e ps _ _ s h fun y r1 e1 I1 H1 h1 s1 => ?_
  refine d2 σ I1 H1 e1 _ _ _ s1 h1 fun x r2 e2 I2 H2 h2 s2 => ?_
  obtain ⟨d, c, v1, v2, q⟩ := h2
  have s2' := s2
  rw [List.append_assoc] at s2'
  obtain ⟨a', o, p, rfl, _, hg, hp, z⟩ := dget_of s2.sub (s2.vw (qs := []) v2) (s2'.vw v1) q
  refine ⟨a', o, rfl, hg, ?_⟩
  have e0 : o.isSome = p.isSome := by
    rcases z with ⟨rfl, rfl⟩ | ⟨_, _, rfl, rfl, _⟩ <;> rfl
  rw [e0]
  exact k _ _ e2 I2 H2 hp (s2.weak.weak.pushI (.bl _))
theorem de_din (hu : X.A.units + 1 < cLine) (h1 : DE X F b g) (h2 : DE X F a f) (hm : behindInMarks .In a = false := by rfl) : DE X F (.Compare b [.In] [a] pos) (eDIn g f) := by
  obtain ⟨t1, p1, d1⟩ := h1
  obtain ⟨t2, p2, d2⟩ := h2
  exact ⟨_, pe_cmp (pc_din hu p1 p2) hm, dinT (neg := false) (ff := fun a _ => a) d1 d2⟩
theorem dt_din (hu : X.A.units + 1 < cLine) (h1 : DE X F b g) (h2 : DE X F a f) (hm : behindInMarks .In a = false := by rfl) : DTe X F (.Compare b [.In] [a] pos) (eTest (eDIn g f)) := by
  obtain ⟨t1, p1, d1⟩ := h1
  obtain ⟨t2, p2, d2⟩ := h2
  exact ⟨_, pt_cmp (pc_din hu p1 p2) hm, DTT.of (dinT (neg := false) (ff := fun a _ => a) d1 d2)⟩
theorem de_dnin (hu : X.A.units + 1 < cLine) (h1 : DE X F b g) (h2 : DE X F a f) (hm : behindInMarks .NotIn a = false := by rfl) : DE X F (.Compare b [.NotIn] [a] pos) (eDNin g f) := by
  obtain ⟨t1, p1, d1⟩ := h1
  obtain ⟨t2, p2, d2⟩ := h2
  exact ⟨_, pe_cmp (pc_dnotin hu p1 p2) hm, dinT (neg := true) (ff := fun a _ => a) d1 d2⟩
theorem dt_dnin (hu : X.A.units + 1 < cLine) (h1 : DE X F b g) (h2 : DE X F a f) (hm : behindInMarks .NotIn a = false := by rfl) : DTe X F (.Compare b [.NotIn] [a] pos) (eTest (eDNin g f)) := by
  obtain ⟨t1, p1, d1⟩ := h1
  obtain ⟨t2, p2, d2⟩ := h2
  exact ⟨_, pt_cmp (pc_dnotin hu p1 p2) hm, DTT.of (dinT (neg := true) (ff := fun a _ => a) d1 d2)⟩
theorem isD_of {x : V} {c : D} {I H : Hp} {K : PySem.W.Frag} (s : Sub I H) (v : VwR K I H x c) (h : (∃ es, c = .dic es) ∨ ∃ es, c = .dik es) : ∃ a, x = .ref a ∧ IsD H a := by
  rcases h with ⟨es, rfl⟩ | ⟨es, rfl⟩
  · obtain ⟨a, kvs, rfl, ha, _⟩ := v.dic s
    exact ⟨a, rfl, .inr ⟨kvs, .inl ha⟩⟩
  · obtain ⟨a, kvs, rfl, ha, _⟩ := v.dik s
    exact ⟨a, rfl, .inl ⟨kvs, .inl ha⟩⟩
theorem de_dget1 {apos cpos : Pos} (hu : X.A.units + 1 < cLine) (h1 : DE X F a f) (h2 : DE X F b g) (m : M1 X a "get" apos b cpos) : DE X F (.Call (.Attribute a "get" apos) [b] [] cpos) (eDGet1 f g) := by
  obtain ⟨t1, p1, d1⟩ := h1
  obtain ⟨t2, p2, d2⟩ := h2
  refine ⟨_, pe_dget1 hu p1 p2 m, fun σ I H e ps P Q s h k => ?_⟩
  refine d1 σ I H e ps _ _ s h fun x r1 e1 I1 H1 h1 s1 => ?_
  obtain ⟨⟨c0, v0, hd⟩, h1⟩ := h1
  obtain ⟨a', rfl, hdd⟩ := isD_of s1.sub (s1.vw (qs := []) v0) hd
  refine ⟨a', rfl, hdd, ?_⟩
  refine d2 σ I1 H1 e1 _ _ _ s1 h1 fun y r2 e2 I2 H2 h2 s2 => ?_
  obtain ⟨c, d, v1, v2, q⟩ := h2
  have s2' := s2
  rw [List.append_assoc] at s2'
  obtain ⟨a2, o, p, e0, _, hg, hp, z⟩ := dget_of s2.sub (s2'.vw v1) (s2.vw (qs := []) v2) q
  cases e0
  refine ⟨o, hg, ?_⟩
  rcases z with ⟨rfl, rfl⟩ | ⟨w, q2, rfl, rfl, rr⟩
  · exact k _ _ e2 I2 H2 hp (s2.weak.weak.pushI .non)
  · exact k _ _ e2 I2 H2 hp (s2.weak.weak.pushI rr)
theorem de_dget2 {apos cpos : Pos} (hu : X.A.units + 1 < cLine) (h1 : DE X F a f) (h2 : DE X F b g) (h3 : DE X F c h) (m : M2 X a "get" apos b c cpos) : DE X F (.Call (.Attribute a "get" apos) [b, c] [] cpos) (eDGet2 f g h) := by
  obtain ⟨t1, p1, d1⟩ := h1
  obtain ⟨t2, p2, d2⟩ := h2
  obtain ⟨t3, p3, d3⟩ := h3
  refine ⟨_, pe_dget2 hu p1 p2 p3 m, fun σ I H e ps P Q s h k => ?_⟩
  refine d1 σ I H e ps _ _ s h fun x r1 e1 I1 H1 h1 s1 => ?_
  obtain ⟨⟨c0, v0, hd⟩, h1⟩ := h1
  obtain ⟨a', rfl, hdd⟩ := isD_of s1.sub (s1.vw (qs := []) v0) hd
  refine ⟨a', rfl, hdd, ?_⟩
  refine d2 σ I1 H1 e1 _ _ _ s1 h1 fun y r2 e2 I2 H2 h2 s2 => ?_
  refine d3 σ I2 H2 e2 _ _ _ s2 h2 fun w r3 e3 I3 H3 h3 s3 => ?_
  obtain ⟨c, d, q0, e4, v1, v2, hf, q⟩ := h3
  have s3' := s3
  rw [List.append_assoc] at s3'
  have s3'' := s3'
  rw [List.append_assoc] at s3''
  obtain ⟨a2, o, p, e0, _, hg, hp, z⟩ := dget_of s3.sub (s3''.vw v1) (s3'.vw v2) q
  cases e0
  obtain ⟨I4, _, s4⟩ := s3.frz hf
  have rw0 : Rep F.K I4 w q0 := ST.temp (qs := []) (t := .imm q0) s4
  refine ⟨o, hg, ?_⟩
  rcases z with ⟨rfl, rfl⟩ | ⟨w2, q2, rfl, rfl, rr⟩
  · exact k _ _ e4 I4 H3 hp (s4.weak.weak.weak.pushI rw0)
  · exact k _ _ e4 I4 H3 hp (s4.weak.weak.weak.pushI (rr.mono (by assumption)))
theorem ds_dput {i : Nat} {x : Str} {p pos' : Pos} {kx vx : Expr} {fk fv : EvF} (hu : X.A.units + 1 < cLine) (ht : PE X (.Name x p) (tVar i)) (hk : DE X F kx fk) (hv : DE X F vx fv) (hs : swapsWith vx (some (.Subscript (.Name x p) kx pos')) pos.line X.env = pure false := by rfl) :
    DS X F (.Assign [.Subscript (.Name x p) kx pos'] vx pos) (sDput i fk fv) := by
  obtain ⟨tk, pk, dk⟩ := hk
  obtain ⟨tw, pw, dw⟩ := hv
  refine ⟨_, ps_dput hu ht pk pw hs, fun σ I H e ps d D hp s h k => ?_⟩
  refine dw σ I H e ps _ _ s h fun v rv e1 I1 H1 h1 s1 => ?_
  obtain ⟨⟨t0, h0⟩, h1⟩ := h1
  obtain ⟨y, y1, _⟩ := s1.slot h0
  refine ⟨y, y1, ?_⟩
  refine dk σ I1 H1 e1 _ _ _ s1 h1 fun w rk e2 I2 H2 h2 s2 => ?_
  obtain ⟨c, e3, kd, e4, a, hf, hg, h2⟩ := h2
  rw [List.append_assoc] at s2
  obtain ⟨I3, _, s3⟩ := s2.frz hf
  have s3' : ST F σ I3 H2 e3 ((ps ++ [(v, .im c)]) ++ [(w, rk)]) := by rw [List.append_assoc]; exact s3
  obtain ⟨I4, _, s4⟩ := s3'.frz hg
  have rk' : Rep F.K I4 w kd := ST.temp (ps := ps ++ [(v, .im c)]) (qs := []) (t := .imm kd) s4
  have rc : Rep F.K I4 v c := ST.temp (ps := ps) (qs := []) (t := .imm c) s4.weak
  have s0 : ST F σ I4 H2 e4 ps := s4.weak.weak
  rcases h2 with ⟨es, k0, he, hk0, hz, hn⟩ | ⟨es, k0, he, hk0, hz, hn⟩
  · obtain ⟨y', z1, rfl, n, kvs, ha, m, r⟩ := s0.slot he
    rw [y1] at z1
    cases z1
    cases kd with
    | tup ds =>
      cases rk' with
      | @tup b xs _ hb rr =>
        have e0 := keysS_rep rr hk0
        subst e0
        obtain ⟨m2, r2⟩ := put_rel (k := k0) rc m r
        have lz : kvs.length = es.length := by simpa using congrArg List.length m
        refine ⟨a, _, rfl, DPut.t (k := k0) ha (s0.sub _ _ hb) (by rw [lz]; exact small6 hz), k.nx _ I4 _ _ hn (s0.mut he ⟨_, upd_same, m2, r2⟩)⟩
    | _ => cases hk0
  · obtain ⟨y', z1, rfl, n, kvs, ha, m, r⟩ := s0.slot he
    rw [y1] at z1
    cases z1
    have e0 : w = kV k0 := keyS_rep rk' hk0
    subst e0
    obtain ⟨m2, r2⟩ := put_rel (k := k0) rc m r
    have lz : kvs.length = es.length := by simpa using congrArg List.length m
    refine ⟨a, _, rfl, DPut.k (k := k0) ha (by rw [lz]; exact small6 hz), k.nx _ I4 _ _ hn (s0.mut he ⟨_, upd_same, m2, r2⟩)⟩
end
/-! ### built-in calls -/
structure DCR (X : Cx) (f : Value) (g : DON) : Prop where
  ex : ∃ r, CallR X f r ∧ DCl X.K r g
def cLen : DON
  | [.lst ds], P => P (.imm (.int ((ds.length : Nat) : Int)))
  | [.fls ds], P => P (.imm (.int ((ds.length : Nat) : Int)))
  | [.tup ds], P => P (.imm (.int ((ds.length : Nat) : Int)))
  | [.ftp ds], P => P (.imm (.int ((ds.length : Nat) : Int)))
  | [.str z], P => z.length ≤ sizeLine ∧ P (.imm (.int ((z.length : Nat) : Int)))
  | [.dic es], P => P (.imm (.int ((es.length : Nat) : Int)))
  | [.dik es], P => P (.imm (.int ((es.length : Nat) : Int)))
  | _, _ => False
def cInt : DON
  | [.int i], P => P (.imm (.int i))
  | [.bl b], P => P (.imm (.int (if b then 1 else 0)))
  | _, _ => False
def cAbs : DON
  | [.int i], P => P (.imm (.int (if i < 0 then -i else i)))
  | _, _ => False
def cMax : DON
  | [.int i, .int j], P => P (.imm (.int (if j > i then j else i)))
  | _, _ => False
def cMin : DON
  | [.int i, .int j], P => P (.imm (.int (if j < i then j else i)))
  | _, _ => False
def cList : DON
  | [.lst ds], P => ∀ a, P (.own a (.lst ds))
  | [.fls ds], P => ∀ a, P (.own a (.lst ds))
  | [.tup ds], P => ∀ a, P (.own a (.lst ds))
  | [.ftp ds], P => ∀ a, P (.own a (.lst ds))
  | _, _ => False
def cTuple : DON
  | [.lst ds], P => P (.imm (.tup ds))
  | [.tup ds], P => P (.imm (.tup ds))
  | _, _ => False
def cBool : DON
  | [.int i], P => P (.imm (.bl (i != 0)))
  | [.bl b], P => P (.imm (.bl b))
  | _, _ => False
def cStr : DON
  | [.int i], P => i.natAbs.log2 < 1920 ∧ P (.imm (.str (toString i)))
  | _, _ => False
section
variable {X : Cx} {K : PySem.W.Frag} {I H : Hp} {xs : List V} {c d : D}
theorem VwRs.one (h : VwRs K I H xs [c]) : ∃ x, xs = [x] ∧ VwR K I H x c := by
  cases h with
  | cons h1 h2 => cases h2; exact ⟨_, rfl, h1⟩
theorem VwRs.two (h : VwRs K I H xs [c, d]) : ∃ x y, xs = [x, y] ∧ VwR K I H x c ∧ VwR K I H y d := by
  cases h with
  | cons h1 h2 =>
    obtain ⟨y, rfl, h3⟩ := h2.one
    exact ⟨_, y, rfl, h1, h3⟩
theorem dcr_len : DCR X (.builtin "len") cLen := ⟨_, call_len_seq.or (call_len_str.or (call_len_dT.or call_lenD)), fun I H xs ds P Q s v h k => by
  unfold cLen at h
  split at h
  · obtain ⟨x, rfl, w⟩ := v.one
    obtain ⟨a, ys, rfl, ha, r⟩ := w.lst s
    exact .inl ⟨a, ys, rfl, .inl (SqL.of ha), by rw [r.len]; exact k.imm s h (.int _)⟩
  · obtain ⟨x, rfl, w⟩ := v.one
    obtain ⟨a, ys, rfl, ha, r⟩ := w.fls s
    exact .inl ⟨a, ys, rfl, .inl ha, by rw [r.len]; exact k.imm s h (.int _)⟩
  · obtain ⟨x, rfl, w⟩ := v.one
    obtain ⟨a, ys, rfl, ha, r⟩ := w.tup s
    exact .inl ⟨a, ys, rfl, .inr (SqT.of ha), by rw [r.len]; exact k.imm s h (.int _)⟩
  · obtain ⟨x, rfl, w⟩ := v.one
    obtain ⟨a, ys, rfl, ha, r⟩ := w.ftp s
    exact .inl ⟨a, ys, rfl, .inr ha, by rw [r.len]; exact k.imm s h (.int _)⟩
  · obtain ⟨x, rfl, w⟩ := v.one
    exact .inr (.inl ⟨_, by rw [w.str], h.1, k.imm s h.2 (.int _)⟩)
  · obtain ⟨x, rfl, w⟩ := v.one
    obtain ⟨a, kvs, rfl, ha, m, r⟩ := w.dic s
    have lz := congrArg List.length m
    rw [List.length_map, List.length_map] at lz
    exact .inr (.inr (.inl ⟨a, kvs, rfl, ha, by rw [lz]; exact k.imm s h (.int _)⟩))
  · obtain ⟨x, rfl, w⟩ := v.one
    obtain ⟨a, kvs, rfl, ha, m, r⟩ := w.dik s
    have lz := congrArg List.length m
    rw [List.length_map, List.length_map] at lz
    exact .inr (.inr (.inr ⟨a, kvs, rfl, ha, by rw [lz]; exact k.imm s h (.int _)⟩))
  · exact h.elim⟩
theorem dcr_int : DCR X (.type "int") cInt := ⟨_, c_int, fun I H xs ds P Q s v h k => by
  unfold cInt at h
  split at h
  · obtain ⟨x, rfl, w⟩ := v.one
    exact .inl ⟨_, by rw [w.int], k.imm s h (.int _)⟩
  · obtain ⟨x, rfl, w⟩ := v.one
    exact .inr ⟨_, by rw [w.bl], k.imm s h (.int _)⟩
  · exact h.elim⟩
theorem dcr_abs : DCR X (.builtin "abs") cAbs := ⟨_, c_abs, fun I H xs ds P Q s v h k => by
  unfold cAbs at h
  split at h
  · obtain ⟨x, rfl, w⟩ := v.one
    exact ⟨_, by rw [w.int], k.imm s h (.int _)⟩
  · exact h.elim⟩
theorem dcr_max (hc : X.calm = true) : DCR X (.builtin "max") cMax := ⟨_, c_max hc, fun I H xs ds P Q s v h k => by
  unfold cMax at h
  split at h
  · exact ⟨_, _, v.ints2, k.imm s h (.int _)⟩
  · exact h.elim⟩
theorem dcr_min (hc : X.calm = true) : DCR X (.builtin "min") cMin := ⟨_, c_min hc, fun I H xs ds P Q s v h k => by
  unfold cMin at h
  split at h
  · exact ⟨_, _, v.ints2, k.imm s h (.int _)⟩
  · exact h.elim⟩
theorem dcr_list : DCR X (.type "list") cList := ⟨_, c_list, fun I H xs ds P Q s v h k => by
  unfold cList at h
  split at h
  · obtain ⟨x, rfl, w⟩ := v.one
    obtain ⟨a, ys, rfl, ha, r⟩ := w.lst s
    exact ⟨a, ys, rfl, .inl (SqL.of ha), k.lst s h r⟩
  · obtain ⟨x, rfl, w⟩ := v.one
    obtain ⟨a, ys, rfl, ha, r⟩ := w.fls s
    exact ⟨a, ys, rfl, .inl ha, k.lst s h r⟩
  · obtain ⟨x, rfl, w⟩ := v.one
    obtain ⟨a, ys, rfl, ha, r⟩ := w.tup s
    exact ⟨a, ys, rfl, .inr (SqT.of ha), k.lst s h r⟩
  · obtain ⟨x, rfl, w⟩ := v.one
    obtain ⟨a, ys, rfl, ha, r⟩ := w.ftp s
    exact ⟨a, ys, rfl, .inr ha, k.lst s h r⟩
  · exact h.elim⟩
theorem dcr_tuple : DCR X (.type "tuple") cTuple := ⟨_, call_tuple_of, fun I H xs ds P Q s v h k => by
  unfold cTuple at h
  split at h
  · obtain ⟨x, rfl, w⟩ := v.one
    obtain ⟨a, ys, rfl, ha, r⟩ := w.lst s
    exact ⟨a, ys, rfl, .inl ⟨SqL.of ha, k.tup s h r⟩⟩
  · obtain ⟨x, rfl, w⟩ := v.one
    obtain ⟨a, ys, rfl, ha, r⟩ := w.tup s
    rcases w with w | ⟨_, _, w⟩
    · exact ⟨a, ys, rfl, .inr ⟨SqT.of ha, k.imm s h w⟩⟩
    · exact w.elim
  · exact h.elim⟩
theorem dcr_bool : DCR X (.type "bool") cBool := ⟨_, call_bool1, fun I H xs ds P Q s v h k => by
  unfold cBool at h
  split at h
  · obtain ⟨x, rfl, w⟩ := v.one
    exact .inl ⟨_, by rw [w.int], k.imm s h (.bl _)⟩
  · obtain ⟨x, rfl, w⟩ := v.one
    exact .inr ⟨_, by rw [w.bl], k.imm s h (.bl _)⟩
  · exact h.elim⟩
theorem dcr_str : DCR X (.type "str") cStr := ⟨_, call_str_int, fun I H xs ds P Q s v h k => by
  unfold cStr at h
  split at h
  · obtain ⟨x, rfl, w⟩ := v.one
    exact ⟨_, by rw [w.int], h.1, k.imm s h.2 (.str _)⟩
  · exact h.elim⟩
end
/-- a thing's type, or its class -/
def tyOfD : D → Option Value
  | .non => some (.type "NoneType")
  | .bl _ => some (.type "bool")
  | .int _ => some (.type "int")
  | .str _ => some (.type "str")
  | .lst _ => some (.type "list")
  | .fls _ => some (.type "list")
  | .tup _ => some (.type "tuple")
  | .ftp _ => some (.type "tuple")
  | .dic _ => some (.type "dict")
  | .dik _ => some (.type "dict")
  | .obj C _ => some (.ref C)
  | _ => none
def clOfD : D → Option Value
  | .ty n => some (.type n)
  | .cls C => some (.ref C)
  | _ => none
/-- what the classes of the text must have for isinstance -/
structure IsiC (K : PySem.W.Frag) (C : Addr) : Prop where
  cl : Cls K C
  i1 : PySem.W.findIn K (.ref C) "__class__" = some (some (.builtin "object.__class__"))
  i2 : PySem.W.specialIn K (.builtin "object.__class__") "__get__" = some (some (.builtin "getset_descriptor.__get__"))
  i3 : PySem.W.takesIn K (.builtin "object.__class__") = some true
  i4 : PySem.W.mroIn K C (.type "object") = some true
def cIsi (K : PySem.W.Frag) : DON := fun ds P => ∃ d c, ds = [d, c] ∧ (∀ C fs, d = .obj C fs → IsiC K C) ∧ ∃ t u b, tyOfD d = some t ∧ clOfD c = some u ∧ PySem.W.kitOne K t u = some b ∧ P (.imm (.bl b))
theorem tyX_of {K : PySem.W.Frag} {I H : Hp} {x : V} {d : D} {t : Value} (s : Sub I H) (v : VwR K I H x d) (hC : ∀ C fs, d = .obj C fs → IsiC K C) (h : tyOfD d = some t) : TyX K H x t := by
  cases d with
  | non => cases h; rw [v.non]; exact .base .non
  | bl b => cases h; rw [v.bl]; exact .base (.bl _)
  | int i => cases h; rw [v.int]; exact .base (.int _)
  | str i => cases h; rw [v.str]; exact .base (.str _)
  | lst ds => cases h; obtain ⟨a, ys, rfl, ha, r⟩ := v.lst s; exact .base (.lst ha)
  | fls ds =>
    cases h
    obtain ⟨a, ys, rfl, ha, r⟩ := v.fls s
    rcases ha with (ha | ⟨o, ha⟩) | ⟨o, its, n, ha, hc, _⟩
    · exact .base (.lst ha)
    · exact .base (.frz ha)
    · exact .kList ha hc
  | tup ds => cases h; obtain ⟨a, ys, rfl, ha, r⟩ := v.tup s; exact .base (.tup ha)
  | ftp ds =>
    cases h
    obtain ⟨a, ys, rfl, ha, r⟩ := v.ftp s
    rcases ha with (ha | ⟨o, ha⟩) | ⟨o, its, n, ha, hc, _⟩
    · exact .base (.tup ha)
    · exact .fTuple ha
    · exact .kTuple ha hc
  | dic es => cases h; obtain ⟨a, ys, rfl, ha, r⟩ := v.dic s; exact .base (.dT ha)
  | dik es => cases h; obtain ⟨a, ys, rfl, ha, r⟩ := v.dik s; exact .base (.dK ha)
  | obj C fs =>
    cases h
    obtain ⟨a, dx, gs, rfl, ha, m, r⟩ := v.obj s
    have c := hC C fs rfl
    exact .base (.ins ha c.cl c.i1 c.i2 c.i3 c.i4)
  | cls C => cases h
  | ty n => cases h
theorem dcr_isi {X : Cx} : DCR X (.builtin "isinstance") (cIsi X.K) := ⟨_, call_isi, fun I H xs ds P Q s v h k => by
  obtain ⟨d, c, rfl, hC, t, u, b, h1, h2, h3, p⟩ := h
  · obtain ⟨x, y, rfl, v1, v2⟩ := v.two
    have cv : ClsV y u := by
      cases c with
      | ty n => cases h2; rw [v2.ty]; exact .ty n
      | cls C =>
        cases h2
        rcases v2 with v2 | ⟨_, _, v2⟩
        · cases v2; exact .own C
        · exact v2.elim
      | _ => cases h2
    exact ⟨x, y, t, u, b, rfl, cv, tyX_of s v1 hC h1, h3, k.imm s p (.bl _)⟩⟩
section
variable {X : Cx} {F : Fr} {g : DON} {x : Str} {p pos : Pos} {ex : Expr} {exs : List Expr} {f : EvA}
theorem de_blt {id : String} (h : DCR X (.builtin id) g) (hg : Gl X x) (hm : X.mg x = none) (hv : bootBuiltins x = some (.builtin id)) (ha : DA X F (ex :: exs) f) (hK : F.K = X.K := by first | rfl | assumption) (hn : x ≠ "__name__" := by decide) (hdb : (x == ("__debug__" : Str)) = false := by decide)
    (he : starEach (ex :: exs) X.env = (false, eval ex X.env) :: starEach exs X.env := by rfl) (hpl : (backTo pos (starEach exs X.env)).any (·.1) = false := by rfl) : DE X F (.Call (.Name x p) (ex :: exs) [] pos) (eCl g f) := by
  obtain ⟨r, hr, dr⟩ := h
  obtain ⟨t, pa, d⟩ := ha
  exact ⟨_, pe_callB hr hg hm hv pa hn hdb he hpl, DT.cl (by rw [hK]; exact dr) d⟩
theorem de_typ {T : String} (h : DCR X (.type T) g) (hg : Gl X x) (hm : X.mg x = none) (hv : bootBuiltins x = some (.type T)) (ha : DA X F (ex :: exs) f) (hK : F.K = X.K := by first | rfl | assumption) (hn : x ≠ "__name__" := by decide) (hdb : (x == ("__debug__" : Str)) = false := by decide)
    (he : starEach (ex :: exs) X.env = (false, eval ex X.env) :: starEach exs X.env := by rfl) (hpl : (backTo pos (starEach exs X.env)).any (·.1) = false := by rfl) : DE X F (.Call (.Name x p) (ex :: exs) [] pos) (eCl g f) := by
  obtain ⟨r, hr, dr⟩ := h
  obtain ⟨t, pa, d⟩ := ha
  exact ⟨_, pe_callTy hr hg hm hv pa hn hdb he hpl, DT.cl (by rw [hK]; exact dr) d⟩
end
/-! ### in, not in -/
def strsOf : List D → Option (List Str)
  | [] => some []
  | .str z :: ds => (strsOf ds).map fun zs => z :: zs
  | _ :: _ => none
def oIn : DO2
  | .str k, .ftp ds, P => ∃ zs, strsOf ds = some zs ∧ P (.imm (.bl (zs.contains k)))
  | .str k, .tup ds, P => ∃ zs, strsOf ds = some zs ∧ P (.imm (.bl (zs.contains k)))
  | c, .lst ds, P => okP c ∧ okP (.lst ds) ∧ P (.imm (.bl (ds.any fun z => eqD z c)))
  | .str k, .str z, P => ∃ c : Nat, k = ⟨#[c]⟩ ∧ P (.imm (.bl (decide (c ∈ z.cps.toList))))
  | _, _, _ => False
def oNin : DO2 := fun c d P => oIn c d fun t => ∃ b, t = .imm (.bl b) ∧ P (.imm (.bl !b))
theorem toPys_any {c : D} : ∀ ds : List D, ((toPys ds).any fun z => PyData.eqv z (toPy c)) = ds.any fun z => eqD z c
  | [] => rfl
  | d :: ds => by rw [toPys, List.any_cons, List.any_cons, toPys_any ds]; rfl
theorem strsOf_rep {K : PySem.W.Frag} {I : Hp} : ∀ {xs : List V} {ds : List D} {zs : List Str}, Reps K I xs ds → strsOf ds = some zs → xs = zs.map V.str
  | _, _, zs, .nil, h => by cases h; rfl
  | _, _, zs, .cons (d := d) r rr, h => by
    cases d with
    | str z =>
      unfold strsOf at h
      cases q : strsOf _ with
      | none => rw [q] at h; cases h
      | some zs' =>
        rw [q] at h
        cases h
        cases r
        rw [List.map_cons, strsOf_rep rr q]
    | _ => cases h
theorem inV_strs (k : Str) : ∀ zs : List Str, inV (.str k) (zs.map V.str) = zs.contains k
  | [] => rfl
  | z :: zs => by
    have ih := inV_strs k zs
    unfold inV at ih ⊢
    rw [List.map_cons, List.any_cons, ih, List.contains_cons]
    congr 1
    show (z == k) = (k == z)
    by_cases e : z = k
    · subst e; rfl
    · rw [beq_false_of_ne e, beq_false_of_ne (Ne.symm e)]
theorem flat_strs (zs : List Str) : (zs.map V.str).all flatV = true := by
  rw [List.all_eq_true]
  intro x hx
  obtain ⟨z, _, rfl⟩ := List.mem_map.mp hx
  rfl
section
variable {X : Cx}
theorem oIn_gen {K : PySem.W.Frag} {I H : Hp} {x y : V} {c d : D} {P : Ent → Prop} (s : Sub I H) (v1 : VwR K I H x c) (v2 : VwR K I H y d) (h : oIn c d P) :
    (∃ p xs b, y = .ref p ∧ SqT K H p xs ∧ flatV x = true ∧ xs.all flatV = true ∧ inV x xs = b ∧ P (.imm (.bl b))) ∨ (∃ ds, d = .lst ds ∧ okP c ∧ okP d ∧ P (.imm (.bl (ds.any fun z => eqD z c)))) ∨
    (∃ (i : Nat) (z : Str), x = .str ⟨#[i]⟩ ∧ y = .str z ∧ P (.imm (.bl (decide (i ∈ z.cps.toList))))) := by
  cases d with
  | ftp ds =>
    cases c with
    | str k =>
      obtain ⟨zs, hz, p⟩ := h
      obtain ⟨a, xs, rfl, ha, r⟩ := v2.ftp s
      have e := strsOf_rep r hz
      subst e
      rw [v1.str]
      exact .inl ⟨a, _, _, rfl, ha, rfl, flat_strs zs, inV_strs _ zs, p⟩
    | _ => exact h.elim
  | tup ds =>
    cases c with
    | str k =>
      obtain ⟨zs, hz, p⟩ := h
      obtain ⟨a, xs, rfl, ha, r⟩ := v2.tup s
      have e := strsOf_rep r hz
      subst e
      rw [v1.str]
      exact .inl ⟨a, _, _, rfl, SqT.of ha, rfl, flat_strs zs, inV_strs _ zs, p⟩
    | _ => exact h.elim
  | lst ds => exact .inr (.inl ⟨ds, rfl, by cases c <;> exact h⟩)
  | str z =>
    cases c with
    | str k =>
      obtain ⟨i, rfl, p⟩ := h
      exact .inr (.inr ⟨i, z, v1.str, v2.str, p⟩)
    | _ => exact h.elim
  | _ => cases c <;> exact h.elim
theorem dor_in (hu : X.A.units + 65 < cLine) : DOR X (compareOp .In) oIn := ⟨_, op_in_seq.or ((op_inD hu).or op_in_sign), fun I H x y c d P Q s v1 v2 h k => by
  rcases oIn_gen s v1 v2 h with ⟨p, xs, b, rfl, hq, f1, f2, e, q⟩ | ⟨ds, rfl, h1, h2, q⟩ | ⟨i, z, rfl, rfl, q⟩
  · refine .inl ⟨p, xs, rfl, .inr hq, f1, f2, ?_⟩
    rw [if_neg Bool.false_ne_true, e]
    exact k.imm s q (.bl _)
  · refine .inr (.inl ⟨toPy c, toPys ds, Rep.dpH s v1 h1, Rep.dpH s v2 h2, okD_shaped h1 (by decide), okD_shaped (n := 40) h2 (by decide), ?_⟩)
    rw [toPys_any]
    exact k.imm s q (.bl _)
  · exact .inr (.inr ⟨i, z, rfl, rfl, k.imm s q (.bl _)⟩)⟩
theorem dor_nin (hu : X.A.units + 65 < cLine) : DOR X (compareOp .NotIn) oNin := ⟨_, op_notIn_seq.or ((op_notInD hu).or op_notIn_sign), fun I H x y c d P Q s v1 v2 h k => by
  rcases oIn_gen s v1 v2 h with ⟨p, xs, b, rfl, hq, f1, f2, e, b', e', q⟩ | ⟨ds, rfl, h1, h2, b', e', q⟩ | ⟨i, z, rfl, rfl, b', e', q⟩
  · refine .inl ⟨p, xs, rfl, .inr hq, f1, f2, ?_⟩
    cases e'
    rw [if_pos rfl, e]
    exact k.imm s q (.bl _)
  · refine .inr (.inl ⟨toPy c, toPys ds, Rep.dpH s v1 h1, Rep.dpH s v2 h2, okD_shaped h1 (by decide), okD_shaped (n := 40) h2 (by decide), ?_⟩)
    cases e'
    rw [toPys_any]
    exact k.imm s q (.bl _)
  · cases e'
    exact .inr (.inr ⟨i, z, rfl, rfl, k.imm s q (.bl _)⟩)⟩
end
/-! ### methods, properties, classes called -/
theorem fs_none {f : Str} : ∀ {fs : List (Str × V)} {es : List (Str × D)}, fs.map (·.1) = es.map (·.1) → es.lookup f = none → fs.lookup f = none
  | [], _, _, _ => rfl
  | _ :: _, [], m, _ => by cases m
  | (g, x) :: fs, (g', d) :: es, m, h => by
    rw [List.map_cons, List.map_cons] at m
    injection m with m1 m2
    have m1' : g = g' := m1
    subst m1'
    rw [List.lookup_cons] at h ⊢
    cases q : f == g with
    | true => rw [q] at h; cases h
    | false => rw [q] at h; exact fs_none m2 h
/-- the call itself, the arguments at hand -/
def callD (PX : Addr → D → En → Prop) (con : Con) (as : List Ag) (e1 : En) (P : Rv → En → Prop) : Prop := ∃ es, entsOf e1 as = some es ∧ oneEach (refsOf as) = true ∧
  con es (fun t es' => es'.length = es.length ∧ ∃ e2, backTo' e1 as es' = some e2 ∧ P (.ent t) e2) (fun C d es' => ∃ e2, backTo' e1 as es' = some e2 ∧ PX C d e2)
def eMeth (PX : Addr → D → En → Prop) (C : Addr) (m : Str) (con : Con) (f : EvF) (g : EvG) : EvF := fun e P => f e fun r e1 => ∃ fs e2, frz e1 r = some (.obj C fs, e2) ∧ fs.lookup m = none ∧ g e2 fun as e3 => callD PX con (.v (.obj C fs) :: as) e3 P
def eMeth0 (PX : Addr → D → En → Prop) (C : Addr) (m : Str) (con : Con) (f : EvF) : EvF := fun e P => f e fun r e1 => ∃ fs e2, frz e1 r = some (.obj C fs, e2) ∧ fs.lookup m = none ∧ callD PX con [.v (.obj C fs)] e2 P
def eProp (C : Addr) (con : Con) (f : EvF) : EvF := fun e P => f e fun r e1 => ∃ fs e2, frz e1 r = some (.obj C fs, e2) ∧ callD (fun _ _ _ => False) con [.v (.obj C fs)] e2 P
def eMake (PX : Addr → D → En → Prop) (con : Con) (g : EvG) : EvF := fun e P => g e fun as e1 => callD PX con as e1 P
/-- a class's own promise, from that of its __init__ -/
def MkD (K : PySem.W.Frag) (C : Addr) (sp : Sp) (con : Con) : Prop := ∀ (vs : List V) (H : Hp) (Q : VK) (E : XK), spD K con vs H Q E → ∀ x dx, H x = none → H dx = none → dx ≠ x →
  sp (.ref x :: vs) (upd (upd H dx (.own x)) x (.ins C dx [])) (fun v H2 => v = .non ∧ Q (.ref x) H2) E
section
variable {X : Cx} {F : Fr} {σ : L2.St} {I H : Hp} {e : En} {ps : Tm}
theorem ST.called {con : Con} {xs : List V} {as : List Ag} {P : Rv → En → Prop} {Q : VK} (s : ST F σ I H e (ps ++ xs.zip (as.map Ag.rv))) (hl : xs.length = as.length) (fo : FrOk F) (h : callD F.PX con as e P)
    (k : ∀ x r e' I' H', P r e' → ST F σ I' H' e' (ps ++ [(x, r)]) → Q x H') : spD F.K con xs H Q (WE F.W σ) := by
  obtain ⟨es, he, o, hc⟩ := h
  refine ⟨I, es, _, _, s.sub, s.give hl he o, hc, fun r es' x I2 H2 hp sub2 env2 st2 => ?_, fun C d es' x dd I2 H2 hp sub2 env2 st2 rx hx => ?_⟩
  · obtain ⟨hes, e2, hb, hp⟩ := hp
    exact k x _ e2 I2 H2 hp (s.tookR hl he o hb sub2 env2 hes st2)
  · obtain ⟨e2, hb, hp⟩ := hp
    exact fo σ I2 H2 e2 ps C d x dd (s.took hl he o hb sub2 env2 st2 fun _ z => z) hp rx hx
variable {k : Nat} {f C : Addr} {fd : FuncData} {pn : List Str} {con : Con} {x m : Str} {p apos pos : Pos} {o ex : Expr} {exs : List Expr} {g : EvG} {fo' : EvF}
theorem de_meth {pl : Sem Bool} (ho : DE X F o fo') (c : Cls X.K C) (hm : Meth X.K C m f) (G : FnOk X.prog X.w X.K X.mg X.base (L2.CX X.prog X.w) k f fd pn (spD X.K con)) (hr : Room k X.A) (hb : Binds X.K fd pn []) (tk : Takes X F.W) (fo : FrOk F) (ha : DG X F (ex :: exs) g) (hK : F.K = X.K := by first | rfl | assumption)
    (hst : starEach (ex :: exs) X.env = (false, eval ex X.env) :: starEach exs X.env := by rfl) (hpl : (backTo pos (starEach exs X.env)).any (·.1) = false := by rfl)
    (ht : eval (.Call (.Attribute o m apos) (ex :: exs) [] pos) X.env = (do
      let ov ← eval o X.env; standAt apos.atName; let (f, first) ← holding [ov] (getMethod ov m pl)
      callWith pos f first (backTo pos (starEach (ex :: exs) X.env)) (backToKw pos (keywordEach [] X.env))) := by rfl) :
    DE X F (.Call (.Attribute o m apos) (ex :: exs) [] pos) (eMeth F.PX C m con fo' g) := by
  obtain ⟨t0, p0, d0⟩ := ho
  obtain ⟨t, pa, d⟩ := ha
  refine ⟨_, pe_methE (pl := pl) p0 c hm G hr hb (fun σ => passAt tk σ) pa hst hpl ht, fun σ I H e ps P Q s h k => ?_⟩
  refine d0 σ I H e ps _ _ s h fun x r e1 I1 H1 h1 s1 => ?_
  obtain ⟨fs, e2, hf, hn, h2⟩ := h1
  obtain ⟨I2, _, s2⟩ := s1.frz hf
  have rx : Rep F.K I2 x (.obj C fs) := ST.temp (qs := []) (t := .imm (.obj C fs)) s2
  cases rx with
  | @obj a _ dx gs _ hx mm rr =>
    refine ⟨a, dx, gs, rfl, s2.sub _ _ hx, fs_none mm hn, ?_⟩
    refine d σ I2 H1 e2 _ _ _ s2 h2 fun xs as e3 I3 H3 h3 hl s3 => ?_
    rw [← hK]
    refine ST.called (I := I3) (ps := ps) (as := .v (.obj C fs) :: as) ?_ (by simp [hl]) fo h3 k
    rw [List.map_cons, List.zip_cons_cons]
    rw [List.append_assoc] at s3
    exact s3
theorem pe_methE0 {pl : Sem Bool} {sp : Sp} {E : L2.St → XK} {CX : CXT} {ta : TE} (he : PE X o ta) (c : Cls X.K C) (hm : Meth X.K C m f) (G : FnOk X.prog X.w X.K X.mg X.base CX k f fd pn sp) (hr : Room k X.A) (hb : Binds X.K fd pn []) (hx : ∀ σ, PassesAt CX X σ (E σ))
    (ht : eval (.Call (.Attribute o m apos) [] [] pos) X.env = (do
      let ov ← eval o X.env; standAt apos.atName; let (f, first) ← holding [ov] (getMethod ov m pl)
      callWith pos f first (backTo pos (starEach [] X.env)) (backToKw pos (keywordEach [] X.env))) := by rfl) :
    PE X (.Call (.Attribute o m apos) [] [] pos) (fun σ H Q => ta σ H fun x H1 => ∃ a dx fs, x = .ref a ∧ H1 a = some (.ins C dx fs) ∧ fs.lookup m = none ∧ sp [x] H1 Q (E σ)) := by
  constructor
  intro pins s σ H Q I h
  apply PySem.W.methodCall_KW (pl := pl) (thn (he.run pins s σ H _ I h) ?_) ht
  rintro u s1 ⟨x, H1, I1, rx, a, dx, fs, rfl, ea, l, q⟩
  cases rx
  apply getmeth_ok I1 ea c hm l
  exact PySem.W.callWith_K0 (first := [.ref a]) I1.kIn hm.kp (run_fnS (us := [.ref a]) (vs := [V.ref a]) G hr hb (hx σ) I1 (.cons (show RelV (.ref a) (.ref a) from rfl) .nil) q)
theorem de_meth0 {pl : Sem Bool} (ho : DE X F o fo') (c : Cls X.K C) (hm : Meth X.K C m f) (G : FnOk X.prog X.w X.K X.mg X.base (L2.CX X.prog X.w) k f fd pn (spD X.K con)) (hr : Room k X.A) (hb : Binds X.K fd pn []) (tk : Takes X F.W) (fo : FrOk F) (hK : F.K = X.K := by first | rfl | assumption)
    (ht : eval (.Call (.Attribute o m apos) [] [] pos) X.env = (do
      let ov ← eval o X.env; standAt apos.atName; let (f, first) ← holding [ov] (getMethod ov m pl)
      callWith pos f first (backTo pos (starEach [] X.env)) (backToKw pos (keywordEach [] X.env))) := by rfl) :
    DE X F (.Call (.Attribute o m apos) [] [] pos) (eMeth0 F.PX C m con fo') := by
  obtain ⟨t0, p0, d0⟩ := ho
  refine ⟨_, pe_methE0 (pl := pl) p0 c hm G hr hb (fun σ => passAt tk σ) ht, fun σ I H e ps P Q s h k => ?_⟩
  refine d0 σ I H e ps _ _ s h fun x r e1 I1 H1 h1 s1 => ?_
  obtain ⟨fs, e2, hf, hn, h2⟩ := h1
  obtain ⟨I2, _, s2⟩ := s1.frz hf
  have rx : Rep F.K I2 x (.obj C fs) := ST.temp (qs := []) (t := .imm (.obj C fs)) s2
  cases rx with
  | @obj a _ dx gs _ hx mm rr =>
    refine ⟨a, dx, gs, rfl, s2.sub _ _ hx, fs_none mm hn, ?_⟩
    rw [← hK]
    exact ST.called (ps := ps) (as := [.v (.obj C fs)]) s2 rfl fo h2 k
theorem de_prop {q : Addr} (ho : DE X F o fo') (c : Cls X.K C) (hp : PropOf X.K C m q f) (G : FnOk X.prog X.w X.K X.mg X.base (L2.CX X.prog X.w) k f fd pn (spD X.K con)) (hr : Room (k + 1) X.A) (hb : Binds X.K fd pn []) (hK : F.K = X.K := by first | rfl | assumption)
    (hab : attributeBase o m X.env (eval o X.env) = eval o X.env := by rfl) : DE X F (.Attribute o m pos) (eProp C con fo') := by
  obtain ⟨t0, p0, d0⟩ := ho
  refine ⟨_, pe_prop p0 c hp G hr hb .nil passL hab, fun σ I H e ps P Q s h k => ?_⟩
  refine d0 σ I H e ps _ _ s h fun x r e1 I1 H1 h1 s1 => ?_
  obtain ⟨fs, e2, hf, h2⟩ := h1
  obtain ⟨I2, _, s2⟩ := s1.frz hf
  have rx : Rep F.K I2 x (.obj C fs) := ST.temp (qs := []) (t := .imm (.obj C fs)) s2
  cases rx with
  | @obj a _ dx gs _ hx mm rr =>
    refine ⟨a, dx, gs, rfl, s2.sub _ _ hx, ?_⟩
    rw [← hK]
    exact ST.called (F := F.nox) (ps := ps) (as := [.v (.obj C fs)]) s2.nox rfl frok_nox h2 fun x r e' I' H' p s => k x r e' I' H' p s.unnox
end
/-! ### a class called; raise; try -/
section
variable {X : Cx} {F : Fr} {k : Nat} {f C : Addr} {fd : FuncData} {pn : List Str} {con : Con} {x : Str} {p pos : Pos} {ex : Expr} {exs : List Expr} {g : EvG} {sp : Sp}
theorem pe_makeE {E : L2.St → XK} {CX : CXT} {t : TA} (M : Mk X.K C f) (G : FnOk X.prog X.w X.K X.mg X.base CX k f fd pn sp) (hr : Room (k + 1) X.A) (hg : Gl X x) (hm : X.mg x = some (.ref C)) (hb : Binds X.K fd pn []) (hx : ∀ σ, PassesAt CX X σ (E σ)) (ha : PA X (ex :: exs) t)
    (hdb : (x == ("__debug__" : Str)) = false := by decide) (he : starEach (ex :: exs) X.env = (false, eval ex X.env) :: starEach exs X.env := by rfl) (hpl : (backTo pos (starEach exs X.env)).any (·.1) = false := by rfl) :
    PE X (.Call (.Name x p) (ex :: exs) [] pos) (fun σ H Q => t σ H fun vs H1 => ∀ q dx, H1 q = none → H1 dx = none → dx ≠ q → sp (.ref q :: vs) (upd (upd H1 dx (.own q)) q (.ins C dx [])) (fun v H2 => v = .non ∧ Q (.ref q) H2) (E σ)) := by
  constructor
  intro pins s σ H Q I h
  apply wpAny_Call_Name_kw (ld_glob I hg hm ?_ hdb)
  apply PySem.W.callWith_K (h₀ := X.base) I.ok.mod.kin M.kp (thn (ha.run pos pins s σ H _ I h) ?_) he hpl
  rintro us s1 ⟨vs, H1, I1, r, q⟩
  refine ⟨I1.kIn, ?_⟩
  have hq := q (s1.heap.objs.size + 1) s1.heap.objs.size (I1.hok.fresh (Nat.le_succ _)) (I1.hok.fresh (Nat.le_refl _)) (Nat.ne_of_lt (Nat.lt_succ_self _))
  have I2 := Inv.made (C := C) I1
  have r2 : Vals (V.ref (s1.heap.objs.size + 1) :: vs) (Value.ref (s1.heap.objs.size + 1) :: us) := .cons (show RelV (.ref _) (.ref _) from rfl) r
  have hl : (Value.ref (s1.heap.objs.size + 1) :: us).length = pn.length := r2.length.symm.trans (G.len _ _ _ _ hq)
  have b := hb _ (Value.ref (s1.heap.objs.size + 1) :: us) I2.kIn (by rw [List.append_nil]; exact hl)
  rw [List.append_nil] at b
  apply wpAny_call
  apply make_map (f := f) I1.kIn M.makes M.init (beq_iff_eq.mp M.fn)
  apply codeAny_mono (G.run _ X.stack _ _ ⟨Value.ref (s1.heap.objs.size + 1) :: us, []⟩ _ _ _ (E σ) (hr.make C us []) (I2.env0.make C us []) b r2 hq)
  intro r s' hq'
  match r, hq' with
  | .error e, hq' => exact hx σ pins _ _ e s' I2 hq'
  | .ok (.ret u), hq' =>
    obtain ⟨v, H', I3, rv, ev, q3⟩ := I2.after hq'
    subst ev
    exact ⟨rv, ⟨V.ref (s1.heap.objs.size + 1), H', I3, rfl, q3⟩⟩
theorem de_make (M : Mk X.K C f) (G : FnOk X.prog X.w X.K X.mg X.base (L2.CX X.prog X.w) k f fd pn sp) (hM : MkD X.K C sp con) (hr : Room (k + 1) X.A) (hg : Gl X x) (hm : X.mg x = some (.ref C)) (hb : Binds X.K fd pn []) (tk : Takes X F.W) (fo : FrOk F) (ha : DG X F (ex :: exs) g)
    (hK : F.K = X.K := by first | rfl | assumption) (hdb : (x == ("__debug__" : Str)) = false := by decide) (he : starEach (ex :: exs) X.env = (false, eval ex X.env) :: starEach exs X.env := by rfl) (hpl : (backTo pos (starEach exs X.env)).any (·.1) = false := by rfl) :
    DE X F (.Call (.Name x p) (ex :: exs) [] pos) (eMake F.PX con g) := by
  obtain ⟨t, pa, d⟩ := ha
  refine ⟨_, pe_makeE M G hr hg hm hb (fun σ => passAt tk σ) pa hdb he hpl, fun σ I H e ps P Q s h k => ?_⟩
  refine d σ I H e ps _ _ s h fun xs as e1 I1 H1 h1 hl s1 => ?_
  have z := ST.called s1 hl fo h1 k
  rw [hK] at z
  exact hM xs H1 Q _ z
end
/-- raise C(e) -/
def sRaise (PX : Addr → D → En → Prop) (C : Addr) (f : EvF) : SvF := fun e _ => f e fun r e1 => ∃ c e2, frz e1 r = some (c, e2) ∧ PX C c e2
section
variable {X : Cx} {F : Fr} {fI C : Addr} {k : Nat} {fd : FuncData} {pn : List Str} {x : Str} {p pos rpos : Pos} {ex : Expr} {f : EvF}
theorem ds_raise (hc : X.calm = true) (tk : Takes X F.W) (fo : FrOk F) (T : OexC X.K C) (iC : PySem.W.findIn X.K (.ref C) "__init__" = some (some (.ref fI))) (tI : PySem.W.typeIn X.K (.ref fI) = some (.type "function")) (no : PySem.W.findIn X.K (.ref C) "value" = some none)
    (F1 : FnOk X.prog X.w X.K X.mg X.base CX0 k fI fd pn (spErr X.K)) (hr : Room (k + 1) X.A) (hb : Binds X.K fd pn []) (hg : Gl X x) (hm : X.mg x = some (.ref C)) (ha : DE X F ex f)
    (hdb : (x == ("__debug__" : Str)) = false := by decide) (he : starEach [ex] X.env = (false, eval ex X.env) :: starEach [] X.env := by rfl) (hpl : (backTo pos (starEach [] X.env)).any (·.1) = false := by rfl) :
    DS X F (.Raise (some (.Call (.Name x p) [ex] [] pos)) none rpos) (sRaise F.PX C f) := by
  obtain ⟨t, pa, d⟩ := ha
  refine ⟨_, ps_raise hc tk (pmk_oex T iC tI F1 hr hb .nil pass0 hg hm (pa_cons pa pa_nil he) hdb he hpl), fun σ I H e ps dd D hp s h k => ?_⟩
  refine d σ I H e ps _ _ s h fun v r e1 I1 H1 h1 s1 => ?_
  obtain ⟨c, e2, hf, hx⟩ := h1
  obtain ⟨I2, _, s2⟩ := s1.frz hf
  have rx : Rep F.K I2 v c := ST.temp (qs := []) (t := .imm c) s2
  refine ⟨by show 1 ≤ 1000; decide, raise_val (H1 := H1) (v := v) (E := fun cls d H' => F.W cls d σ H') T no fun d' H' sm hd => ?_⟩
  have g : Grow I2 H1 I2 H' := ⟨Le.refl, fun b o q => sm b o q, fun b o q => sm b o (s2.sub b o q), fun b o q => .inl q⟩
  exact fo σ I2 H' e2 ps C c v d' (s2.weak.grow g) hx rx hd
end
/-! ### len of an own object -/
section
variable {X : Cx} {CX : CXT} {k : Nat} {C g : Addr} {fd : FuncData} {ps : List Str} {sp : Sp}
def rLenO (C : Addr) (sp : Sp) : List V → Hp → VK → Prop := fun xs H Q => ∃ a dx fs, xs = [.ref a] ∧ H a = some (.ins C dx fs) ∧ sp [.ref a] H (fun v H' => ∃ n : Int, v = .int n ∧ 0 ≤ n ∧ n < 2 ^ 63 ∧ Q (.int n) H') fun _ _ _ => False
theorem c_lenO (F : FnOk X.prog X.w X.K X.mg X.base CX k g fd ps sp) (hr : Room (k + 1) X.A) (hm : Meth X.K C "__len__" g) (hb : Binds X.K fd ps []) (hx : Passes CX X.nox fun _ _ _ => False) : CallR X (.builtin "len") (rLenO C sp) := by
  intro pins s σ H xs us Q I r h
  obtain ⟨a, dx, fs, rfl, ea, h⟩ := h
  rw [Vals.ref1 r]
  obtain ⟨mA, O, _, _, _, _⟩ := ins_get I.hok ea
  obtain ⟨od, J, _⟩ := O.look
  have hl : ([Value.ref a] ++ []).length = ps.length := by
    rw [← F.len _ _ _ _ h]
    rfl
  refine Calls.call_function_entry kind_len plain_len entry_len (args_len1 _) ?_
  unfold Builtin.«len»
  refine wpAny_bind (m := oneArg "len" _) ?_
  refine wpAny_pure ?_
  refine wpAny_bind (m := callSpecial? (.ref a) (Str.ofString "__len__")) ?_
  refine PySem.W.special_fn I.kIn J hm.at_ (beq_iff_eq.mp hm.fn) ?_
  refine wpAny_call ?_
  refine codeAny_mono (F.run X.A.in1 X.stack s H ⟨[Value.ref a], []⟩ ([Value.ref a] ++ []) [V.ref a] _ _ hr.in1 I.env0.in1 (hb _ [Value.ref a] I.kIn hl) (.cons (show RelV (.ref a) (.ref a) from rfl) .nil) h) fun r s' hq => ?_
  cases r with
  | error er => exact False.elim (hx pins σ H s er s' (I.wish _) hq)
  | ok fl =>
    cases fl with
    | ret u =>
      obtain ⟨v, H', I3, rv, n, rfl, h0, h1, q⟩ := I.after hq
      obtain ⟨t, rfl⟩ := rv
      refine wpAny_bind ?_
      refine wpAny_holding ?_
      refine wpAny_pure ?_
      refine wpAny_bind ?_
      refine wpAny_letGo ?_
      show wpAny _ _ (if n < 0 then _ else _) _ _ _
      rw [if_neg (by omega)]
      show wpAny _ _ (if n ≥ 2 ^ 63 then _ else _) _ _ _
      rw [if_neg (by omega)]
      refine wpAny_bind ?_
      refine wpAny_mkInt ?_
      refine wpAny_pure ⟨_, rfl, ?_⟩
      exact ⟨.int n, H', I3.tok _, ⟨_, rfl⟩, q⟩
    | next => exact False.elim hq
    | brk => exact False.elim hq
    | cont => exact False.elim hq
end
/-! ### == and + of own objects -/
section
variable {X : Cx} {CX : CXT} {k : Nat} {C g : Addr} {fd : FuncData} {ps : List Str} {sp : Sp} {E : XK}
def rOwn2 (C : Addr) (sp : Sp) (E : XK) : R2 := fun x y H Q => ∃ a b dx dy fs gs, x = .ref a ∧ y = .ref b ∧ H a = some (.ins C dx fs) ∧ H b = some (.ins C dy gs) ∧ sp [.ref a, .ref b] H Q E
theorem back_of {pins : List (Addr × Obj)} {σ : L2.St} {Q : VK} {u : Value} {s : Shared} (h : EP X pins σ Q u s) : PySem.W.CmpBack (EP X pins σ Q) u s := by
  obtain ⟨v, H, I, r, q⟩ := h
  cases u with
  | notImplemented => cases v <;> first | (obtain ⟨_, r⟩ := r; cases r; done) | cases r
  | _ => exact ⟨v, H, I, r, q⟩
theorem o_eqOwn (F : FnOk X.prog X.w X.K X.mg X.base CX k g fd ps sp) (hr : Room k X.A) (hm : Meth X.K C "__eq__" g) (hb : Binds X.K fd ps []) (hx : Passes CX X E) : OpR X (compareOp .Eq) (rOwn2 C sp E) := by
  intro pins s σ H x y v u Q I rx ry h
  obtain ⟨a, b, dx, dy, fs, gs, rfl, rfl, ea, eb, h⟩ := h
  obtain rfl : v = Value.ref a := rx
  obtain rfl : u = Value.ref b := ry
  obtain ⟨_, O, _⟩ := ins_get I.hok ea
  obtain ⟨_, O', _⟩ := ins_get I.hok eb
  obtain ⟨_, J, _⟩ := O.look
  obtain ⟨_, J', _⟩ := O'.look
  obtain ⟨_, fr⟩ := I.fr
  refine PySem.W.cmp_K (op := .Eq) (tb := .ref C) hr.units0 fr I.ok.mod.kin J J'.type (by simp [PySem.W.notFirst]) hm.at_ hm.fn ?_
  exact wpAny_mono (run_fn (dvs := []) F hr hb .nil hx I (.cons (show RelV (.ref a) (.ref a) from rfl) (.cons (show RelV (.ref b) (.ref b) from rfl) .nil)) h) (fun _ _ q => back_of q) fun _ _ z => z
theorem o_addOwn (F : FnOk X.prog X.w X.K X.mg X.base CX k g fd ps sp) (hr : Room k X.A) (hm : Meth X.K C "__add__" g) (hc : PySem.W.selfFirst X.K C = true) (hb : Binds X.K fd ps []) (hx : Passes CX X E) : OpR X (binaryOp .Add) (rOwn2 C sp E) := by
  intro pins s σ H x y v u Q I rx ry h
  obtain ⟨a, b, dx, dy, fs, gs, rfl, rfl, ea, eb, h⟩ := h
  obtain rfl : v = Value.ref a := rx
  obtain rfl : u = Value.ref b := ry
  obtain ⟨_, O, _⟩ := ins_get I.hok ea
  obtain ⟨_, O', _⟩ := ins_get I.hok eb
  obtain ⟨_, J, _⟩ := O.look
  obtain ⟨_, J', _⟩ := O'.look
  obtain ⟨_, fr⟩ := I.fr
  refine PySem.W.binop_K (op := .Add) fr I.ok.mod.kin J J'.type hc hm.at_ hm.fn ?_
  exact wpAny_mono (run_fn (dvs := []) F hr hb .nil hx I (.cons (show RelV (.ref a) (.ref a) from rfl) (.cons (show RelV (.ref b) (.ref b) from rfl) .nil)) h) (fun _ _ q => back_of q) fun _ _ z => z
end
/-! ### own objects: ==, len; names in short -/
def eOwn2 (PX : Addr → D → En → Prop) (C : Addr) (con : Con) (f1 f2 : EvF) : EvF := fun e P => f1 e fun r1 e1 => f2 e1 fun r2 e2 => ∃ fs gs e3 e4, frz e2 r1 = some (.obj C fs, e3) ∧ frz e3 r2 = some (.obj C gs, e4) ∧ callD PX con [.v (.obj C fs), .v (.obj C gs)] e4 P
def eLenO (C : Addr) (con : Con) (f : EvF) : EvF := fun e P => f e fun r e1 => ∃ fs e2, frz e1 r = some (.obj C fs, e2) ∧ callD (fun _ _ _ => False) con [.v (.obj C fs)] e2 fun r' e3 => ∃ n : Int, r' = .ent (.imm (.int n)) ∧ 0 ≤ n ∧ n < 2 ^ 63 ∧ P r' e3
section
variable {X : Cx} {F : Fr} {k : Nat} {C g : Addr} {fd : FuncData} {pn : List Str} {con : Con} {a b : Expr} {f1 f2 : EvF} {pos p : Pos} {x : Str}
theorem DT.own2 {E : XK} {ta tb : TE} (d1 : DT F ta f1) (d2 : DT F tb f2) (hE : ∀ σ, E = WE F.W σ) (fo : FrOk F) : DT F (tOp (rOwn2 C (spD F.K con) E) ta tb) (eOwn2 F.PX C con f1 f2) := fun σ I H e ps P Q s h k' => by
  refine d1 σ I H e ps _ _ s h fun x r1 e1 I1 H1 h1 s1 => ?_
  refine d2 σ I1 H1 e1 _ _ _ s1 h1 fun y r2 e2 I2 H2 h2 s2 => ?_
  obtain ⟨fs, gs, e3, e4, hf, hg, hc⟩ := h2
  rw [List.append_assoc] at s2
  obtain ⟨I3, _, s3⟩ := s2.frz hf
  have s3' : ST F σ I3 H2 e3 ((ps ++ [(x, .im (.obj C fs))]) ++ [(y, r2)]) := by rw [List.append_assoc]; exact s3
  obtain ⟨I4, _, s4⟩ := s3'.frz hg
  have ry : Rep F.K I4 y (.obj C gs) := ST.temp (ps := ps ++ [(x, .im (.obj C fs))]) (qs := []) (t := .imm (.obj C gs)) s4
  have rx : Rep F.K I4 x (.obj C fs) := ST.temp (ps := ps) (qs := []) (t := .imm (.obj C fs)) s4.weak
  cases rx with
  | @obj a _ dx fs' _ hx m1 r1 =>
    cases ry with
    | @obj b _ dy gs' _ hy m2 r2 =>
      refine ⟨a, b, dx, dy, fs', gs', rfl, rfl, s4.sub _ _ hx, s4.sub _ _ hy, ?_⟩
      rw [hE σ]
      refine ST.called (I := I4) (ps := ps) (as := [.v (.obj C fs), .v (.obj C gs)]) ?_ rfl fo hc k'
      rw [List.append_assoc] at s4
      exact s4
theorem de_eqO (h1 : DE X F a f1) (h2 : DE X F b f2) (G : FnOk X.prog X.w X.K X.mg X.base (L2.CX X.prog X.w) k g fd pn (spD X.K con)) (hr : Room k X.A) (hm : Meth X.K C "__eq__" g) (hb : Binds X.K fd pn []) (hK : F.K = X.K := by first | rfl | assumption) (hmk : behindInMarks .Eq b = false := by exact nomark _) :
    DE X F (.Compare a [.Eq] [b] pos) (eOwn2 (fun _ _ _ => False) C con f1 f2) := by
  obtain ⟨t1, p1, d1⟩ := h1
  obtain ⟨t2, p2, d2⟩ := h2
  refine ⟨_, pe_cmpR (o_eqOwn G hr hm hb (E := fun _ _ _ => False) passL) p1 p2 hmk, fun σ I H e ps P Q s h k' => ?_⟩
  rw [← hK]
  refine d1 σ I H e ps _ _ s h fun x r1 e1 I1 H1 h1 s1 => ?_
  refine d2 σ I1 H1 e1 _ _ _ s1 h1 fun y r2 e2 I2 H2 h2 s2 => ?_
  obtain ⟨fs, gs, e3, e4, hf, hg, hc⟩ := h2
  rw [List.append_assoc] at s2
  obtain ⟨I3, _, s3⟩ := s2.frz hf
  have s3' : ST F σ I3 H2 e3 ((ps ++ [(x, .im (.obj C fs))]) ++ [(y, r2)]) := by rw [List.append_assoc]; exact s3
  obtain ⟨I4, _, s4⟩ := s3'.frz hg
  have ry : Rep F.K I4 y (.obj C gs) := ST.temp (ps := ps ++ [(x, .im (.obj C fs))]) (qs := []) (t := .imm (.obj C gs)) s4
  have rx : Rep F.K I4 x (.obj C fs) := ST.temp (ps := ps) (qs := []) (t := .imm (.obj C fs)) s4.weak
  cases rx with
  | @obj a _ dx fs' _ hx m1 r1 =>
    cases ry with
    | @obj b _ dy gs' _ hy m2 r2 =>
      refine ⟨a, b, dx, dy, fs', gs', rfl, rfl, s4.sub _ _ hx, s4.sub _ _ hy, ?_⟩
      refine ST.called (F := F.nox) (I := I4) (ps := ps) (as := [.v (.obj C fs), .v (.obj C gs)]) ?_ rfl frok_nox hc fun x r e' I' H' p s => k' x r e' I' H' p s.unnox
      rw [List.append_assoc] at s4
      exact s4.nox
theorem de_lenO (h1 : DE X F a f1) (G : FnOk X.prog X.w X.K X.mg X.base (L2.CX X.prog X.w) k g fd pn (spD X.K con)) (hr : Room (k + 1) X.A) (hm : Meth X.K C "__len__" g) (hb : Binds X.K fd pn []) (hg : Gl X "len") (hmg : X.mg "len" = none) (hK : F.K = X.K := by first | rfl | assumption)
    (he : starEach [a] X.env = (false, eval a X.env) :: starEach [] X.env := by rfl) (hpl : (backTo pos (starEach [] X.env)).any (·.1) = false := by rfl) : DE X F (.Call (.Name "len" p) [a] [] pos) (eLenO C con f1) := by
  obtain ⟨t1, p1, d1⟩ := h1
  refine ⟨_, pe_callB (c_lenO G hr hm hb passL) hg hmg (by decide +kernel) (pa_cons p1 pa_nil he) (by decide) (by decide) he hpl, fun σ I H e ps P Q s h k' => ?_⟩
  refine d1 σ I H e ps _ _ s h fun x r1 e1 I1 H1 h1 s1 => ?_
  obtain ⟨fs, e2, hf, hc⟩ := h1
  obtain ⟨I2, _, s2⟩ := s1.frz hf
  have rx : Rep F.K I2 x (.obj C fs) := ST.temp (qs := []) (t := .imm (.obj C fs)) s2
  cases rx with
  | @obj a _ dx gs _ hx m1 r1 =>
    refine ⟨a, dx, gs, rfl, s2.sub _ _ hx, ?_⟩
    rw [← hK]
    refine ST.called (F := F.nox) (I := I2) (ps := ps) (as := [.v (.obj C fs)]) s2.nox rfl frok_nox hc fun x r e' I' H' ⟨n, hr, h0, h1, p⟩ s => ?_
    subst hr
    have rn : Rep F.K I' x (.int n) := ST.temp (F := F.nox) (qs := []) (t := .imm (.int n)) s
    cases rn
    exact ⟨n, rfl, h0, h1, k' _ _ e' I' H' p s.unnox⟩
/-- a local name, by its slot -/
theorem dv (i : Nat) {x : Str} {pos : Pos} (hN : X.N[i]? = some x := by rfl) (hv : Vis X.env.scope x := by first | exact Or.inl rfl | exact Or.inr (Or.inl rfl) | exact Or.inr (Or.inr rfl)) (hd : (x == ("__debug__" : Str)) = false := by decide)
    (hcd : (x == ("__classdict__" : Str)) = false := by decide) : DE X F (.Name x pos) (eVar i) := de_var hN hv hd hcd
/-- .. handed over as it is -/
theorem gr (i : Nat) {x : Str} {pos : Pos} {es : List Expr} {g : EvG} (h2 : DG X F es g) (hN : X.N[i]? = some x := by rfl) (hv : Vis X.env.scope x := by first | exact Or.inl rfl | exact Or.inr (Or.inl rfl) | exact Or.inr (Or.inr rfl)) (hd : (x == ("__debug__" : Str)) = false := by decide)
    (hcd : (x == ("__classdict__" : Str)) = false := by decide) (hs : starEach (.Name x pos :: es) X.env = (false, eval (.Name x pos) X.env) :: starEach es X.env := by rfl) : DG X F (.Name x pos :: es) (gaR i g) := dg_r hN hv h2 hd hcd hs
/-- a constant tuple of texts of the module -/
theorem de_con {x : Str} {a : Addr} {xs : List V} {ds : List D} {pos : Pos} (hg : Gl X x) (hm : X.mg x = some (.ref a)) (h : ∀ H, SqT X.K H a xs) (r : ∀ I, Reps X.K I xs ds) (hK : F.K = X.K := by first | rfl | assumption) (hd : (x == ("__debug__" : Str)) = false := by decide) : DE X F (.Name x pos) (eC (.ftp ds)) :=
  de_glob (v := .ref a) hg hm rfl (fun I => by rw [hK]; exact .ftp (h I) (r I)) hd
end
theorem reps_strs {K : PySem.W.Frag} {I : Hp} : ∀ zs : List Str, Reps K I (zs.map V.str) (zs.map D.str)
  | [] => .nil
  | _ :: zs => .cons (.str _) (reps_strs zs)
/-! ### the steps of a walk over data -/
section
variable {e e1 e2 e3 : En} {P : Rv → En → Prop} {PB : Bool → En → Prop} {PA : List Rv → En → Prop} {PG : List Ag → En → Prop} {PO : Option Int → En → Prop} {PN : En → Prop} {PE : Ent → Prop} {d : Ed} {i j : Nat} {c q : D} {a : Addr} {r r1 r2 : Rv} {rs : List Rv} {f g h : EvF} {fa : EvA} {fg : EvG} {t u : EvT} {s s' : SvF} {tg : TgF} {tgs : TgsF}
theorem s_vi (h : e[i]? = some (some (.imm c))) (k : P (.im c) e) : eVar i e P := .inl ⟨c, h, k⟩
theorem s_vs {x : Ent} (h : e[i]? = some (some x)) (k : P (.slot i) e) : eVar i e P := .inr ⟨x, h, k⟩
theorem s_c (k : P (.im c) e) : eC c e P := k
theorem s_aN (k : PA [] e) : aNil e PA := k
theorem s_aC (k : f e fun r e1 => fa e1 fun rs e2 => PA (r :: rs) e2) : aCons f fa e PA := k
theorem s_tup (k : fa e fun rs e1 => ∃ ds e2, frzs e1 rs = some (ds, e2) ∧ ds.length ≤ 1000 ∧ P (.im (.tup ds)) e2) : eTup fa e P := k
theorem s_lst (k : fa e fun rs e1 => ∃ ds e2, frzs e1 rs = some (ds, e2) ∧ ds.length ≤ 1000 ∧ ∀ a, P (.ent (.own a (.lst ds))) e2) : eLst fa e P := k
theorem x_frzs {R : List D → En → Prop} {ds : List D} (h : frzs e rs = some (ds, e1)) (l : Nat.ble ds.length 1000 = true) (k : R ds e1) : ∃ ds e2, frzs e rs = some (ds, e2) ∧ ds.length ≤ 1000 ∧ R ds e2 := ⟨ds, e1, h, Nat.le_of_ble_eq_true l, k⟩
theorem s_op {o : DO2} (k : f e fun r1 e1 => g e1 fun r2 e2 => ∃ c d, val e2 r1 = some c ∧ val e2 r2 = some d ∧ o c d fun t => P (.ent t) e2) : eOp o f g e P := k
theorem s_un {o : DO1} (k : f e fun r e1 => ∃ c, val e1 r = some c ∧ o c fun t => P (.ent t) e1) : eUn o f e P := k
theorem s_cl {o : DON} (k : fa e fun rs e1 => ∃ ds, vals e1 rs = some ds ∧ o ds fun t => P (.ent t) e1) : eCl o fa e P := k
theorem x_val2 {R : D → D → Prop} (h1 : val e r1 = some c) (h2 : val e r2 = some q) (k : R c q) : ∃ c d, val e r1 = some c ∧ val e r2 = some d ∧ R c d := ⟨c, q, h1, h2, k⟩
theorem x_val {R : D → Prop} (h : val e r = some c) (k : R c) : ∃ c, val e r = some c ∧ R c := ⟨c, h, k⟩
theorem x_vals {R : List D → Prop} {ds : List D} (h : vals e rs = some ds) (k : R ds) : ∃ ds, vals e rs = some ds ∧ R ds := ⟨ds, h, k⟩
theorem x_bl {R : Bool → Prop} {b : Bool} (h : val e r = some (.bl b)) (k : R b) : ∃ b, val e r = some (.bl b) ∧ R b := ⟨b, h, k⟩
theorem x_int {R : Int → Prop} {z : Int} (h : val e r = some (.int z)) (k : R z) : ∃ z, val e r = some (.int z) ∧ R z := ⟨z, h, k⟩
theorem x_frz {R : D → En → Prop} (h : frz e r = some (c, e1)) (k : R c e1) : ∃ c e2, frz e r = some (c, e2) ∧ R c e2 := ⟨c, e1, h, k⟩
theorem x_frzO {R : List (Str × D) → En → Prop} {C : Addr} {fs : List (Str × D)} (h : frz e r = some (.obj C fs, e1)) (k : R fs e1) : ∃ fs e2, frz e r = some (.obj C fs, e2) ∧ R fs e2 := ⟨fs, e1, h, k⟩
theorem x_asg {R : En → Prop} (h : asg e i r = some e1) (k : R e1) : ∃ e2, asg e i r = some e2 ∧ R e2 := ⟨e1, h, k⟩
theorem s_test (k : f e fun r e1 => ∃ b, val e1 r = some (.bl b) ∧ PB b e1) : eTest f e PB := k
theorem s_and (k : t e fun b e1 => if b = true then u e1 PB else PB false e1) : sAnd t u e PB := k
theorem s_or (k : t e fun b e1 => if b = true then PB true e1 else u e1 PB) : sOr t u e PB := k
theorem s_not (k : t e fun b e1 => PB (!b) e1) : sNot t e PB := k
theorem s_andV (k : f e fun r e1 => ∃ b, val e1 r = some (.bl b) ∧ if b = true then g e1 P else P (.im (.bl false)) e1) : eAnd f g e P := k
theorem s_orV (k : f e fun r e1 => ∃ b, val e1 r = some (.bl b) ∧ if b = true then P (.im (.bl true)) e1 else g e1 P) : eOr f g e P := k
theorem s_notV (k : f e fun r e1 => ∃ b, val e1 r = some (.bl b) ∧ P (.im (.bl !b)) e1) : eNot f e P := k
theorem s_ifV (k : t e fun b e1 => if b = true then f e1 P else g e1 P) : eIf t f g e P := k
theorem s_chain {o o' : DO2} (k : f e fun r1 e1 => g e1 fun r2 e2 => ∃ c d, val e2 r1 = some c ∧ val e2 r2 = some d ∧ o c d fun t => ∃ b, t = .imm (.bl b) ∧
  if b = true then h e2 fun r3 e3 => ∃ c d, val e3 r2 = some c ∧ val e3 r3 = some d ∧ o' c d fun t => P (.ent t) e3 else P (.im (.bl false)) e2) : eChain o o' f g h e P := k
theorem x_ib {R : Bool → Prop} {b : Bool} (k : R b) : ∃ b', Ent.imm (.bl b) = .imm (.bl b') ∧ R b' := ⟨b, rfl, k⟩
theorem s_pN (k : PO none e) : pNo e PO := k
theorem s_pS (k : f e fun r e1 => ∃ i, val e1 r = some (.int i) ∧ PO (some i) e1) : pSome f e PO := k
theorem s_sl {l u : EvO} (k : f e fun r e1 => l e1 fun lo e2 => u e2 fun hi e3 => ∃ c, val e3 r = some c ∧ oSl c lo hi fun t => P (.ent t) e3) : eSl f l u e P := k
theorem s_call {PX : Addr → D → En → Prop} {con : Con} (k : fg e fun as e1 => ∃ es, entsOf e1 as = some es ∧ oneEach (refsOf as) = true ∧ con es (fun t es' => es'.length = es.length ∧ ∃ e2, backTo' e1 as es' = some e2 ∧ P (.ent t) e2) (fun C d es' => ∃ e2, backTo' e1 as es' = some e2 ∧ PX C d e2)) : eCall PX con fg e P := k
theorem x_con {R : List Ent → Prop} {as : List Ag} {es : List Ent} {b : Bool} (h : entsOf e as = some es) (h2 : b = true) (k : R es) : ∃ es, entsOf e as = some es ∧ b = true ∧ R es := ⟨es, h, h2, k⟩
theorem x_back {R : En → Prop} {as : List Ag} {es' : List Ent} {n m : Nat} (hl : n = m) (h : backTo' e as es' = some e1) (k : R e1) : n = m ∧ ∃ e2, backTo' e as es' = some e2 ∧ R e2 := ⟨hl, e1, h, k⟩
theorem x_back1 {R : En → Prop} {as : List Ag} {es' : List Ent} (h : backTo' e as es' = some e1) (k : R e1) : ∃ e2, backTo' e as es' = some e2 ∧ R e2 := ⟨e1, h, k⟩
theorem s_gaN (k : PG [] e) : gaNil e PG := k
theorem s_gaV (k : f e fun r e1 => ∃ d e2, frz e1 r = some (d, e2) ∧ fg e2 fun as e3 => PG (.v d :: as) e3) : gaV f fg e PG := k
theorem s_gaR {x : Ent} (h : e[i]? = some (some x)) (k : fg e fun as e1 => PG (.r i :: as) e1) : gaR i fg e PG := ⟨⟨x, h⟩, k⟩
theorem s_meth {PX : Addr → D → En → Prop} {C : Addr} {m : Str} {con : Con} (k : f e fun r e1 => ∃ fs e2, frz e1 r = some (.obj C fs, e2) ∧ fs.lookup m = none ∧ fg e2 fun as e3 => callD PX con (.v (.obj C fs) :: as) e3 P) : eMeth PX C m con f fg e P := k
theorem s_meth0 {PX : Addr → D → En → Prop} {C : Addr} {m : Str} {con : Con} (k : f e fun r e1 => ∃ fs e2, frz e1 r = some (.obj C fs, e2) ∧ fs.lookup m = none ∧ callD PX con [.v (.obj C fs)] e2 P) : eMeth0 PX C m con f e P := k
theorem s_prop {C : Addr} {con : Con} (k : f e fun r e1 => ∃ fs e2, frz e1 r = some (.obj C fs, e2) ∧ callD (fun _ _ _ => False) con [.v (.obj C fs)] e2 P) : eProp C con f e P := k
theorem s_make {PX : Addr → D → En → Prop} {con : Con} (k : fg e fun as e1 => callD PX con as e1 P) : eMake PX con fg e P := k
theorem s_own2 {PX : Addr → D → En → Prop} {C : Addr} {con : Con} (k : f e fun r1 e1 => g e1 fun r2 e2 => ∃ fs gs e3 e4, frz e2 r1 = some (.obj C fs, e3) ∧ frz e3 r2 = some (.obj C gs, e4) ∧ callD PX con [.v (.obj C fs), .v (.obj C gs)] e4 P) : eOwn2 PX C con f g e P := k
theorem x_frz2 {R : List (Str × D) → List (Str × D) → En → Prop} {C : Addr} {fs gs : List (Str × D)} (h1 : frz e r1 = some (.obj C fs, e1)) (h2 : frz e1 r2 = some (.obj C gs, e2)) (k : R fs gs e2) : ∃ fs gs e3 e4, frz e r1 = some (.obj C fs, e3) ∧ frz e3 r2 = some (.obj C gs, e4) ∧ R fs gs e4 := ⟨fs, gs, e1, e2, h1, h2, k⟩
theorem s_lenO {C : Addr} {con : Con} (k : f e fun r e1 => ∃ fs e2, frz e1 r = some (.obj C fs, e2) ∧ callD (fun _ _ _ => False) con [.v (.obj C fs)] e2 fun r' e3 => ∃ n : Int, r' = .ent (.imm (.int n)) ∧ 0 ≤ n ∧ n < 2 ^ 63 ∧ P r' e3) : eLenO C con f e P := k
theorem s_callD {PX : Addr → D → En → Prop} {con : Con} {as : List Ag} {es : List Ent} (h : entsOf e as = some es) (h2 : oneEach (refsOf as) = true) (k : con es (fun t es' => es'.length = es.length ∧ ∃ e2, backTo' e as es' = some e2 ∧ P (.ent t) e2) (fun C d es' => ∃ e2, backTo' e as es' = some e2 ∧ PX C d e2)) : callD PX con as e P := ⟨es, h, h2, k⟩
theorem s_mut {o : DMo} {ds0 : List D} (h : e[i]? = some (some (.own a (.lst ds0)))) (k : fa e fun rs e1 => ∃ cs e2 a ds, frzs e1 rs = some (cs, e2) ∧ e2[i]? = some (some (.own a (.lst ds))) ∧ o ds cs fun ds' d => P (.im d) (e2.set i (some (.own a (.lst ds'))))) : eMut i o fa e P := ⟨⟨a, ds0, h⟩, k⟩
theorem x_mut {R : List D → En → Addr → List D → Prop} {cs ds : List D} (h : frzs e rs = some (cs, e1)) (h2 : e1[i]? = some (some (.own a (.lst ds)))) (k : R cs e1 a ds) : ∃ cs e2 a ds, frzs e rs = some (cs, e2) ∧ e2[i]? = some (some (.own a (.lst ds))) ∧ R cs e2 a ds := ⟨cs, e1, a, ds, h, h2, k⟩
theorem s_mut0 {o : DMo} {ds : List D} (h : e[i]? = some (some (.own a (.lst ds)))) (k : o ds [] fun ds' d => P (.im d) (e.set i (some (.own a (.lst ds'))))) : eMut0 i o e P := ⟨a, ds, h, k⟩
theorem s_dget (k : f e fun r1 e1 => g e1 fun r2 e2 => ∃ c d, val e2 r1 = some c ∧ val e2 r2 = some d ∧ dLook c d fun p => ∃ q, p = some q ∧ P (.im q) e2) : eDGet f g e P := k
theorem s_din (k : f e fun r1 e1 => g e1 fun r2 e2 => ∃ d c, val e2 r1 = some d ∧ val e2 r2 = some c ∧ dLook c d fun p => P (.im (.bl p.isSome)) e2) : eDIn f g e P := k
theorem s_dnin (k : f e fun r1 e1 => g e1 fun r2 e2 => ∃ d c, val e2 r1 = some d ∧ val e2 r2 = some c ∧ dLook c d fun p => P (.im (.bl !p.isSome)) e2) : eDNin f g e P := k
theorem s_lookT {es : List (List Key × D)} {kd : D} {k : List Key} {R : Option D → Prop} (h : keyT kd = some k) (q : R (lookD es k)) : dLook (.dic es) kd R := ⟨k, h, q⟩
theorem s_lookK {es : List (Key × D)} {kd : D} {k : Key} {R : Option D → Prop} (h : keyS kd = some k) (q : R (lookD es k)) : dLook (.dik es) kd R := ⟨k, h, q⟩
/-- statements -/
theorem s_next (k : d.nx e) : sNext e d := k
theorem s_seq (k : s e { d with nx := fun e1 => s' e1 d }) : sSeq s s' e d := k
theorem s_set (k : f e fun r e1 => ∃ e2, asg e1 i r = some e2 ∧ d.nx e2) : sSet i f e d := k
theorem s_drop (k : f e fun _ e1 => d.nx e1) : sDrop f e d := k
theorem s_ret (k : f e d.rt) : sRet f e d := k
theorem s_retN (k : d.rt (.im .non) e) : sRetN e d := k
theorem s_if (k : t e fun b e1 => if b = true then s e1 d else s' e1 d) : sIf t s s' e d := k
theorem s_brk (k : d.bk e) : sBrk e d := k
theorem s_cnt (k : d.ct e) : sCnt e d := k
theorem s_asg (k : f e fun r e1 => ∃ c e2, frz e1 r = some (c, e2) ∧ tg c e2 d.nx) : sAsg f tg e d := k
theorem s_raise {PX : Addr → D → En → Prop} {C : Addr} (k : f e fun r e1 => ∃ c e2, frz e1 r = some (c, e2) ∧ PX C c e2) : sRaise PX C f e d := k
theorem s_setIx (k : g e fun rv e1 => (∃ a ds, e1[i]? = some (some (.own a (.lst ds)))) ∧ f e1 fun ri e2 => ∃ c e3 a ds z j, val e2 ri = some (.int z) ∧ frz e2 rv = some (c, e3) ∧ e3[i]? = some (some (.own a (.lst ds))) ∧ ixN ds.length z = some j ∧ d.nx (e3.set i (some (.own a (.lst (ds.set j c)))))) : sSetIx i f g e d := k
theorem s_gN (h : asg e i (.im c) = some e1) (k : PN e1) : gN i c e PN := ⟨e1, h, k⟩
theorem s_gNl (k : PN e) : gNl [] e PN := ⟨rfl, k⟩
theorem s_gCn {cs : List D} (k : tg c e fun e1 => tgs cs e1 PN) : gCn tg tgs (c :: cs) e PN := ⟨c, cs, rfl, k⟩
theorem s_gT {n : Nat} {cs : List D} (l : cs.length = n) (k : tgs cs e PN) : gT n tgs (.tup cs) e PN := ⟨cs, .inl rfl, l, k⟩
theorem s_gL {n : Nat} {cs : List D} (l : cs.length = n) (k : tgs cs e PN) : gT n tgs (.lst cs) e PN := ⟨cs, .inr rfl, l, k⟩
theorem s_for {w : EvI} (k : w e fun ds e1 => ∃ W : Nat → En → Prop, W 0 e1 ∧ (∀ i c e2, ds[i]? = some c → W i e2 → tg c e2 fun e3 => s e3 { d with nx := W (i + 1), ct := W (i + 1), bk := d.nx }) ∧ ∀ e2, W ds.length e2 → d.nx e2) : sFor w tg s e d := k
theorem s_wSeq {PI : List D → En → Prop} (k : f e fun r e1 => ∃ c e2 ds, frz e1 r = some (c, e2) ∧ items c = some ds ∧ PI ds e2) : wSeq f e PI := k
theorem x_items {R : D → En → List D → Prop} {ds : List D} (h : frz e r = some (c, e1)) (h2 : items c = some ds) (k : R c e1 ds) : ∃ c e2 ds, frz e r = some (c, e2) ∧ items c = some ds ∧ R c e2 ds := ⟨c, e1, ds, h, h2, k⟩
theorem s_rng1 {PI : List D → En → Prop} (k : fa e fun rs e1 => ∃ j, vals e1 rs = some [.int j] ∧ -(2 ^ 62) ≤ j ∧ j < 2 ^ 62 ∧ PI (rngD 0 1 j.toNat) e1) : wRng1 fa e PI := k
theorem x_rng1 {R : Int → Prop} {z : Int} (h : vals e rs = some [.int z]) (h1 : -(2 ^ 62) ≤ z) (h2 : z < 2 ^ 62) (k : R z) : ∃ j, vals e rs = some [.int j] ∧ -(2 ^ 62) ≤ j ∧ j < 2 ^ 62 ∧ R j := ⟨z, h, h1, h2, k⟩
theorem s_rng2 {PI : List D → En → Prop} (k : fa e fun rs e1 => ∃ i j, vals e1 rs = some [.int i, .int j] ∧ (-(2 ^ 62) ≤ i ∧ i < 2 ^ 62 ∧ -(2 ^ 62) ≤ j ∧ j < 2 ^ 62) ∧ PI (rngD i 1 (j - i).toNat) e1) : wRng2 fa e PI := k
theorem x_rng2 {R : Int → Int → Prop} {x z : Int} (h : vals e rs = some [.int x, .int z]) (h1 : -(2 ^ 62) ≤ x ∧ x < 2 ^ 62 ∧ -(2 ^ 62) ≤ z ∧ z < 2 ^ 62) (k : R x z) : ∃ i j, vals e rs = some [.int i, .int j] ∧ (-(2 ^ 62) ≤ i ∧ i < 2 ^ 62 ∧ -(2 ^ 62) ≤ j ∧ j < 2 ^ 62) ∧ R i j := ⟨x, z, h, h1, k⟩
theorem s_enum {PI : List D → En → Prop} (k : f e fun r e1 => ∃ c e2 ds, frz e1 r = some (c, e2) ∧ c = .lst ds ∧ PI (enumD ds) e2) : wEnum f e PI := k
theorem x_enum {R : En → List D → Prop} {ds : List D} (h : frz e r = some (.lst ds, e1)) (k : R e1 ds) : ∃ c e2 ds, frz e r = some (c, e2) ∧ c = .lst ds ∧ R e2 ds := ⟨_, e1, ds, h, rfl, k⟩
theorem s_lc {w : EvI} {vs : List Nat} (k : w e fun ds e1 => clearB e1 vs = true ∧ ds.length ≤ 1000000 ∧ ∃ W : Nat → List D → Prop, W 0 [] ∧
  (∀ i c acc, ds[i]? = some c → W i acc → tg c e1 fun e3 => t e3 fun b e4 => if b = true then f e4 fun r e5 => ∃ d e6, frz e5 r = some (d, e6) ∧ wipeE e6 vs = wipeE e1 vs ∧ W (i + 1) (acc ++ [d]) else wipeE e4 vs = wipeE e1 vs ∧ W (i + 1) acc) ∧
  ∀ acc, W ds.length acc → ∀ a, P (.ent (.own a (.lst acc))) (wipeE e1 vs)) : eLc w tg t f vs e P := k
theorem s_yes (k : PB true e) : sYes e PB := k
theorem x_clear {R : Prop} {vs : List Nat} (h : clearB e vs = true) (k : R) : clearB e vs = true ∧ R := ⟨h, k⟩
theorem s_end {es es' : List Ent} {R : Ent → List Ent → Prop} {x : Ent} (h : mov e r = some (x, e1)) (b : BackE es e1 es') (k : R x es') : (endE es R).rt r e := ⟨x, e1, h, es', b, k⟩
theorem s_endN {es es' : List Ent} {R : Ent → List Ent → Prop} (b : BackE es e es') (k : R (.imm .non) es') : (endE es R).nx e := ⟨es', b, k⟩
end
/-! operators by shape -/
section
variable {i j : Int} {P : Ent → Prop} {c q : D} {xs ys : List D} {z y : Str}
theorem o_addI (k : P (.imm (.int (i + j)))) : oAdd (.int i) (.int j) P := k
theorem o_addS' (h : z.length + y.length ≤ sizeLine) (k : P (.imm (.str (z ++ y)))) : oAdd (.str z) (.str y) P := ⟨h, k⟩
theorem o_addL (h : xs.length + ys.length ≤ sizeLine) (k : ∀ a, P (.own a (.lst (xs ++ ys)))) : oAdd (.lst xs) (.lst ys) P := ⟨h, k⟩
theorem o_subI (k : P (.imm (.int (i - j)))) : oSub (.int i) (.int j) P := k
theorem o_mulI (h : MulOk i j) (k : P (.imm (.int (i * j)))) : oMul (.int i) (.int j) P := ⟨h, k⟩
theorem o_divI (h : DivOk j) (k : P (.imm (.int (i / j)))) : oDiv (.int i) (.int j) P := ⟨h, k⟩
theorem o_modI (h : 0 < j) (k : P (.imm (.int (i % j)))) : oMod (.int i) (.int j) P := ⟨h, k⟩
theorem o_powI (h : CPow i j) (k : P (.imm (.int (i ^ j.toNat)))) : oPow (.int i) (.int j) P := ⟨h, k⟩
theorem o_andI (k : P (.imm (.int (Builtin.bitAnd i j)))) : oAnd (.int i) (.int j) P := k
theorem o_ltI (k : P (.imm (.bl (decide (i < j))))) : oLt (.int i) (.int j) P := k
theorem o_leI (k : P (.imm (.bl (decide (i ≤ j))))) : oLe (.int i) (.int j) P := k
theorem o_gtI (k : P (.imm (.bl (decide (j < i))))) : oGt (.int i) (.int j) P := k
theorem o_geI (k : P (.imm (.bl (decide (j ≤ i))))) : oGe (.int i) (.int j) P := k
theorem o_eqI (k : P (.imm (.bl (decide (i = j))))) : oEq (.int i) (.int j) P := k
theorem o_eqS (k : P (.imm (.bl (decide (z = y))))) : oEq (.str z) (.str y) P := k
theorem o_neI (k : P (.imm (.bl (!decide (i = j))))) : oNe (.int i) (.int j) P := k
theorem o_neS (k : P (.imm (.bl (!decide (z = y))))) : oNe (.str z) (.str y) P := k
theorem o_isN' (k : P (.imm (.bl (isNon c)))) : oIs c .non P := by cases c <;> exact k
theorem o_isB' {b : Bool} (k : P (.imm (.bl (isBl b c)))) : oIs c (.bl b) P := by cases c <;> exact k
theorem o_notN' (k : P (.imm (.bl (!isNon c)))) : oIsNot c .non P := by cases c <;> exact k
theorem o_ixL {n : Nat} (h : ixN xs.length i = some n) (h2 : xs[n]? = some c) (k : P (.imm c)) : oIx (.lst xs) (.int i) P := ⟨n, c, h, h2, k⟩
theorem o_ixT {n : Nat} (h : ixN xs.length i = some n) (h2 : xs[n]? = some c) (k : P (.imm c)) : oIx (.tup xs) (.int i) P := ⟨n, c, h, h2, k⟩
theorem o_slL {lo hi : Option Int} (k : ∀ a, P (.own a (.lst (cutL xs lo hi)))) : oSl (.lst xs) lo hi P := k
theorem o_slF {lo hi : Option Int} (k : ∀ a, P (.own a (.lst (cutL xs lo hi)))) : oSl (.fls xs) lo hi P := k
theorem o_fld {f : Str} {C : Addr} {fs : List (Str × D)} (h : fs.lookup f = some c) (k : P (.imm c)) : oFld f C (.obj C fs) P := ⟨rfl, c, h, k⟩
theorem o_lenL (k : P (.imm (.int ((xs.length : Nat) : Int)))) : cLen [.lst xs] P := k
theorem o_lenT (k : P (.imm (.int ((xs.length : Nat) : Int)))) : cLen [.tup xs] P := k
theorem o_lenF (k : P (.imm (.int ((xs.length : Nat) : Int)))) : cLen [.fls xs] P := k
theorem o_lenD {es : List (List Key × D)} (k : P (.imm (.int ((es.length : Nat) : Int)))) : cLen [.dic es] P := k
theorem o_int (k : P (.imm (.int i))) : cInt [.int i] P := k
theorem o_abs (k : P (.imm (.int (if i < 0 then -i else i)))) : cAbs [.int i] P := k
theorem o_max (k : P (.imm (.int (if j > i then j else i)))) : cMax [.int i, .int j] P := k
theorem o_min (k : P (.imm (.int (if j < i then j else i)))) : cMin [.int i, .int j] P := k
theorem o_list (k : ∀ a, P (.own a (.lst xs))) : cList [.lst xs] P := k
theorem o_inF {ks : List Str} (h : strsOf xs = some ks) (k : P (.imm (.bl (ks.contains z)))) : oIn (.str z) (.ftp xs) P := ⟨ks, h, k⟩
theorem o_ninF {ks : List Str} (h : strsOf xs = some ks) (k : P (.imm (.bl (!ks.contains z)))) : oNin (.str z) (.ftp xs) P := ⟨ks, h, _, rfl, k⟩
theorem o_inT {ks : List Str} (h : strsOf xs = some ks) (k : P (.imm (.bl (ks.contains z)))) : oIn (.str z) (.tup xs) P := ⟨ks, h, k⟩
theorem o_ninT {ks : List Str} (h : strsOf xs = some ks) (k : P (.imm (.bl (!ks.contains z)))) : oNin (.str z) (.tup xs) P := ⟨ks, h, _, rfl, k⟩
theorem m_app {R : List D → D → Prop} (h : xs.length ≤ 1000000) (k : R (xs ++ [c]) .non) : TK.mAppend xs [c] R := ⟨c, rfl, h, k⟩
theorem m_clr {R : List D → D → Prop} (k : R [] .non) : TK.mClear xs [] R := ⟨rfl, k⟩
theorem m_rev {R : List D → D → Prop} (k : R xs.reverse .non) : TK.mReverse xs [] R := ⟨rfl, k⟩
end
/-! ### a list of one's own is looked at, and stays one's own -/
def sForV (i : Nat) (g : TgF) (body : SvF) : SvF := fun e d => ∃ a ds, e[i]? = some (some (.own a (.lst ds))) ∧ ∃ W : Nat → En → Prop, W 0 e ∧ (∀ k e2, W k e2 → e2[i]? = some (some (.own a (.lst ds)))) ∧
  (∀ k c e2, ds[k]? = some c → W k e2 → g c e2 fun e3 => body e3 { d with nx := W (k + 1), ct := W (k + 1), bk := d.nx }) ∧ ∀ e2, W ds.length e2 → d.nx e2
def eLcV (i : Nat) (g : TgF) (tt : EvT) (f : EvF) (vs : List Nat) : EvF := fun e P => ∃ a ds, e[i]? = some (some (.own a (.lst ds))) ∧ clearB e vs = true ∧ ds.length ≤ 1000000 ∧ ∃ W : Nat → List D → Prop, W 0 [] ∧
  (∀ i c acc, ds[i]? = some c → W i acc → g c e fun e3 => tt e3 fun b e4 => if b = true then f e4 fun r e5 => ∃ d e6, frz e5 r = some (d, e6) ∧ wipeE e6 vs = wipeE e vs ∧ W (i + 1) (acc ++ [d]) else wipeE e4 vs = wipeE e vs ∧ W (i + 1) acc) ∧
  ∀ acc, W ds.length acc → ∀ b, P (.ent (.own b (.lst acc))) (wipeE e vs)
section
variable {X : Cx} {F : Fr} {tg elt : Expr} {g : TgF} {f : SvF} {fe : EvF} {tt : EvT} {body : List Stmt} {pos p : Pos} {sl : List Nat} {i : Nat} {x : Str} {ifs : List Expr} {scope : Scope} {own : List (Str × Nat)}
theorem ds_forV (hp : PassesOwn (model X.prog X.w) X.A X.env X.xe) (hc : X.calm = true) (hN : X.N[i]? = some x) (hv : Vis X.env.scope x) (hg : DGt X F tg g sl) (hb : DSs X F body f) (hK : F.K = X.K := by first | rfl | assumption)
    (hd : (x == ("__debug__" : Str)) = false := by decide) (hcd : (x == ("__classdict__" : Str)) = false := by decide) (hs : ∀ z, foldedSetIterable (.Name x p) X.env z = pure z := by intro _; rfl) : DS X F (.For tg (.Name x p) body [] pos) (sForV i g f) := by
  obtain ⟨tg', pg, dg⟩ := hg
  obtain ⟨tb, pb, db⟩ := hb
  refine ⟨_, ps_for hp hc (pi_any (pe_var hN hv hd hcd)) pg pb hs, fun σ I H e ps d D hps s h k => ?_⟩
  obtain ⟨a, ds, q, W, w0, wk, turn, fin⟩ := h
  obtain ⟨y1, n, xs, hx, r⟩ := s.ownL q
  refine ⟨.ref a, y1, .inl ⟨a, rfl, ⟨xs, SqL.of hx⟩, ?_⟩⟩
  refine ⟨fun i m σ H => m = ds.length - i ∧ i ≤ ds.length ∧ ∃ e I, W i e ∧ ST F σ I H e ps, ⟨ds.length, by simp, Nat.zero_le _, e, I, w0, s⟩, ?_⟩
  rintro j m σ2 H2 ⟨rfl, hi, e2, I2, w2, s2⟩
  obtain ⟨z1, n2, xs2, hx2, r2⟩ := s2.ownL (wk j e2 w2)
  by_cases hlt : j < ds.length
  · refine .inr ⟨⟨xs2, xs2[j]'(by rw [r2.len]; exact hlt), SqL.of hx2, List.getElem?_eq_getElem _⟩, fun σ' H' => ∃ e I, W (j + 1) e ∧ ST F σ' I H' e ps, fun σ' H' ⟨e', I', z1, z2⟩ => ⟨ds.length - (j + 1), by omega, rfl, hlt, e', I', z1, z2⟩, fun x H3 hy => ?_⟩
    obtain ⟨rfl, hy2⟩ := hy
    obtain ⟨c, hc3, rx⟩ := r2.get' (hy2 xs2 (SqL.of hx2))
    refine dg x c σ2 I2 H3 e2 ps _ _ (hps.no _) s2 rx (turn j c e2 hc3 w2) fun σ4 e4 h4 s4 _ => ?_
    refine db σ4 I2 H3 e4 ps _ _ hps s4 h4 ⟨fun σ' I' H' e' h5 s5 => ⟨e', I', h5, s5⟩, fun x r σ' I' H' e' h5 s5 => k.rt x r σ' I' H' e' h5 s5, fun σ' I' H' e' h5 s5 => k.nx σ' I' H' e' h5 s5, fun σ' I' H' e' h5 s5 => ⟨e', I', h5, s5⟩⟩
  · have hi' : j = ds.length := by omega
    subst hi'
    exact .inl ⟨⟨xs2, SqL.of hx2, Nat.le_of_eq r2.len⟩, k.nx σ2 I2 H2 e2 (fin e2 w2) s2⟩
theorem DT.lcV {vs : List Nat} (hsl : ∀ j ∈ sl, j ∈ vs) : DT F (tLc (iAny F.K (tVar i)) (tOfG F.nox g sl) (tOfT F.nox tt) (tOf F.nox fe) vs) (eLcV i g tt fe vs) := fun σ I H e ps P Q s h k => by
  obtain ⟨a, ds, q, hcl, hz, W, w0, turn, fin⟩ := h
  obtain ⟨y1, n, xs, hx, r⟩ := s.ownL q
  refine ⟨.ref a, y1, .inl ⟨a, rfl, ⟨xs, SqL.of hx⟩, ?_⟩⟩
  have nps : NoSl vs ps := clear_no s hcl
  intro D hD
  have sW := s.wipe nps
  have s0 : ST F (L2.wipe σ vs) I (upd H D (.lst [])) (wipeE e vs) (ps ++ [(V.ref D, .ent (.own D (.lst [])))]) := sW.pushG (t := .own D (.lst [])) (Grow.alloc s.sub hD) ⟨rfl, s.sub.none hD, [], upd_same, .nil⟩ fun a ha => by simp at ha; subst ha; exact hD
  have nD : ∀ acc : List TK.D, NoSl vs (ps ++ [(V.ref D, .ent (.own D (.lst acc)))]) := fun acc p hp j q => by
    rcases List.mem_append.mp hp with m | m
    · exact nps p m j q
    · rw [List.mem_singleton] at m
      subst m
      cases q
  have wE : wipeE e vs = e := by
    refine List.ext_getElem? fun i => ?_
    by_cases hi : i ∈ vs
    · have z := List.all_eq_true.mp hcl i hi
      have lw := wipeE_len (e := e) vs
      cases q : e[i]? with
      | none =>
        rw [List.getElem?_eq_none_iff] at q ⊢
        omega
      | some o =>
        cases o with
        | some t => rw [q] at z; cases z
        | none =>
          cases q2 : (wipeE e vs)[i]? with
          | none =>
            rw [List.getElem?_eq_none_iff] at q2
            have := (List.getElem?_eq_some_iff.mp q).1
            omega
          | some o2 =>
            cases o2 with
            | none => rfl
            | some t => exact absurd hi (wipeE_some q2).2
    · exact wipeE_out hi
  have qW : (wipeE e vs)[i]? = some (some (.own a (.lst ds))) := by rw [wE]; exact q
  refine ⟨fun i m H => m = ds.length - i ∧ i ≤ ds.length ∧ ∃ (acc : List TK.D) (I : Hp), acc.length ≤ i ∧ W i acc ∧ ST F (L2.wipe σ vs) I H (wipeE e vs) (ps ++ [(V.ref D, .ent (.own D (.lst acc)))]), ⟨ds.length, by simp, Nat.zero_le _, [], I, Nat.zero_le _, w0, s0⟩, ?_⟩
  rintro j m H2 ⟨rfl, hi, acc, I2, hacc, w2, s2⟩
  obtain ⟨_, n2, xs2, hx2, r2⟩ := s2.ownL qW
  by_cases hlt : j < ds.length
  · refine .inr ⟨⟨xs2, xs2[j]'(by rw [r2.len]; exact hlt), SqL.of hx2, List.getElem?_eq_getElem _⟩, fun H' => ∃ (acc : List TK.D) (I : Hp), acc.length ≤ j + 1 ∧ W (j + 1) acc ∧ ST F (L2.wipe σ vs) I H' (wipeE e vs) (ps ++ [(V.ref D, .ent (.own D (.lst acc)))]), fun H' z => ⟨ds.length - (j + 1), by omega, rfl, hlt, z⟩, fun x H3 hy => ?_⟩
    obtain ⟨rfl, hy2⟩ := hy
    obtain ⟨c, hc3, rx⟩ := r2.get' (hy2 xs2 (SqL.of hx2))
    have s3 := s2.nox
    have tu := turn j c acc hc3 w2
    refine ⟨c, I2, wipeE e vs, _, _, fun p hp j q m => nD acc p hp j q (hsl j m), s3, rx, by rw [wE]; exact tu, fun σ4 e4 h4 s4 so => ?_⟩
    have sw : wipe σ4 vs = wipe σ vs := by
      have z := wipe_same (vs := vs) (σ := L2.wipe σ vs) (σ' := σ4) ⟨so.1, fun j hj => so.2 j fun m => hj (hsl j m)⟩
      rw [z]
      exact wipe_same (vs := vs) ⟨wipe_length .., fun j hj => wipe_out hj⟩
    refine ⟨sw, I2, e4, _, _, s4, h4, fun b e5 I5 H5 h5 s5 => ?_⟩
    cases b with
    | false =>
      obtain ⟨q1, q2⟩ := h5
      have s6 := s5.unnox.wipe (vs := vs) (nD acc)
      rw [sw, q1] at s6
      exact ⟨acc, I5, by omega, q2, s6⟩
    | true =>
      refine ⟨I5, e5, _, _, s5, h5, fun y r e6 I6 H6 h6 s6 => ?_⟩
      obtain ⟨d, e7, hf, q1, q2⟩ := h6
      obtain ⟨I7, _, s7⟩ := s6.unnox.frz hf
      have ry : Rep F.K I7 y d := ST.temp (qs := []) (t := .imm d) s7
      have s8 := ST.weak s7
      have rD : EntR F.K I7 H6 (.ref D) (.own D (.lst acc)) := ST.temp (ps := ps) (qs := []) s8
      obtain ⟨_, _, xs, hx, rr⟩ := rD
      have lx := rr.len
      refine ⟨xs, hx, by rw [lx]; exact Nat.lt_of_le_of_lt (m := 1000000) (by omega) (by decide), acc ++ [d], I7, by simp; omega, q2, ?_⟩
      have s9 := ST.mutT (ps := ps) (qs := []) (d' := .lst (acc ++ [d])) (o := .lst (xs ++ [y])) s8 ⟨xs ++ [y], upd_same, rr.app (.cons ry .nil)⟩
      have s10 := s9.wipe (vs := vs) (nD _)
      rw [sw, q1] at s10
      exact s10
  · have hi' : j = ds.length := by omega
    subst hi'
    refine .inl ⟨⟨xs2, SqL.of hx2, Nat.le_of_eq r2.len⟩, ?_⟩
    exact k _ _ _ I2 H2 (fin acc w2 D) ((s2.unwipe (nD acc)))
theorem de_lcV (hc : X.calm = true) (hN : X.N.Nodup) (hNi : X.N[i]? = some x) (hv : Vis X.env.scope x) (ok : BlkOk X.N X.env.scope scope own)
    (hg : ∀ (s : Shared) (H : Hp) (C : Addr) (cl : List (Str × Addr)) (fp : List Addr), DGt (X.blk s H scope (compEnvC scope cl C X.env) fp) F.nox tg g sl) (ht : ∀ (s : Shared) (H : Hp) (C : Addr) (cl : List (Str × Addr)) (fp : List Addr), DTs (X.blk s H scope (compEnvC scope cl C X.env) fp) F.nox ifs tt)
    (he : ∀ (s : Shared) (H : Hp) (C : Addr) (cl : List (Str × Addr)) (fp : List Addr), DE (X.blk s H scope (compEnvC scope cl C X.env) fp) F.nox elt fe) (hsl : (sl.all fun j => (own.map (·.2)).contains j) = true) (hK : F.K = X.K := by first | rfl | assumption)
    (hd : (x == ("__debug__" : Str)) = false := by decide) (hcd : (x == ("__classdict__" : Str)) = false := by decide) (hs : ∀ z, foldedSetIterable (.Name x p) X.env z = pure z := by intro _; rfl) :
    DE X F (.ListComp elt [⟨tg, .Name x p, ifs, 0⟩] scope pos) (eLcV i g tt fe (own.map (·.2))) := by
  have z := DT.lcV (F := F) (g := g) (tt := tt) (fe := fe) (i := i) (vs := own.map (·.2)) (sl := sl) fun j hj => List.contains_iff_mem.mp (List.all_eq_true.mp hsl j hj)
  rw [hK] at z
  exact ⟨_, pe_lc hc hN (pi_any (pe_var hNi hv hd hcd)) ok (fun s H C cl fp => (hg s H C cl fp).tof) (fun s H C cl fp => (ht s H C cl fp).tof) (fun s H C cl fp => (he s H C cl fp).tof) hs, z⟩
theorem ds_setLcV {k : Nat} {y : Str} {py spos : Pos} (hc : X.calm = true) (hN : X.N.Nodup) (hy : X.N[k]? = some y) (hyl : X.env.scope.names.lookup y = some .local)
    (hsw : swapsWith (.ListComp elt [⟨tg, .Name x p, ifs, 0⟩] scope pos) (some (.Name y py)) spos.line X.env = pure true) (hNi : X.N[i]? = some x) (hv : Vis X.env.scope x) (ok : BlkOk X.N X.env.scope scope own)
    (hg : ∀ (s : Shared) (H : Hp) (C : Addr) (cl : List (Str × Addr)) (fp : List Addr), DGt (X.blk s H scope (compEnvC scope cl C X.env) fp) F.nox tg g sl) (ht : ∀ (s : Shared) (H : Hp) (C : Addr) (cl : List (Str × Addr)) (fp : List Addr), DTs (X.blk s H scope (compEnvC scope cl C X.env) fp) F.nox ifs tt)
    (he : ∀ (s : Shared) (H : Hp) (C : Addr) (cl : List (Str × Addr)) (fp : List Addr), DE (X.blk s H scope (compEnvC scope cl C X.env) fp) F.nox elt fe) (hsl : (sl.all fun j => (own.map (·.2)).contains j) = true) (hK : F.K = X.K := by first | rfl | assumption)
    (hd : (x == ("__debug__" : Str)) = false := by decide) (hcd : (x == ("__classdict__" : Str)) = false := by decide) (hs : ∀ z, foldedSetIterable (.Name x p) X.env z = pure z := by intro _; rfl) :
    DS X F (.Assign [.Name y py] (.ListComp elt [⟨tg, .Name x p, ifs, 0⟩] scope pos) spos) (sSet k (eLcV i g tt fe (own.map (·.2)))) := by
  have z := DT.lcV (F := F) (g := g) (tt := tt) (fe := fe) (i := i) (vs := own.map (·.2)) (sl := sl) fun j hj => List.contains_iff_mem.mp (List.all_eq_true.mp hsl j hj)
  rw [hK] at z
  refine ⟨_, ps_setLc hc hN hy hyl hsw (pi_any (pe_var hNi hv hd hcd)) ok (fun s H C cl fp => (hg s H C cl fp).tof) (fun s H C cl fp => (ht s H C cl fp).tof) (fun s H C cl fp => (he s H C cl fp).tof) hs, fun σ I H e ps d D hp s h k => ?_⟩
  refine z σ I H e ps _ _ s h fun x r e1 I1 H1 h1 s1 => ?_
  obtain ⟨e2, ha, h2⟩ := h1
  obtain ⟨I2, s2⟩ := s1.asg (hp.no _) ha
  exact k.nx _ I2 H1 e2 h2 s2
theorem s_lcV {e : En} {P : Rv → En → Prop} {vs : List Nat} {a : Addr} {ds : List D} (q : e[i]? = some (some (.own a (.lst ds)))) (hc : clearB e vs = true) (h : ds.length ≤ 1000000 ∧ ∃ W : Nat → List D → Prop, W 0 [] ∧
  (∀ i c acc, ds[i]? = some c → W i acc → g c e fun e3 => tt e3 fun b e4 => if b = true then fe e4 fun r e5 => ∃ d e6, frz e5 r = some (d, e6) ∧ wipeE e6 vs = wipeE e vs ∧ W (i + 1) (acc ++ [d]) else wipeE e4 vs = wipeE e vs ∧ W (i + 1) acc) ∧
  ∀ acc, W ds.length acc → ∀ b, P (.ent (.own b (.lst acc))) (wipeE e vs)) : eLcV i g tt fe vs e P := ⟨a, ds, q, hc, h⟩
theorem s_forV {e : En} {d : Ed} {a : Addr} {ds : List D} (q : e[i]? = some (some (.own a (.lst ds)))) (h : ∃ W : Nat → En → Prop, W 0 e ∧ (∀ k e2, W k e2 → e2[i]? = some (some (.own a (.lst ds)))) ∧
  (∀ k c e2, ds[k]? = some c → W k e2 → g c e2 fun e3 => f e3 { d with nx := W (k + 1), ct := W (k + 1), bk := d.nx }) ∧ ∀ e2, W ds.length e2 → d.nx e2) : sForV i g f e d := ⟨a, ds, q, h⟩
end
/-! ### comprehensions whose elements change what the frame holds (the hand) -/
def eLcG (w : EvI) (g : TgF) (tt : EvT) (f : EvF) (vs : List Nat) : EvF := fun e P => w e fun ds e1 => clearB e1 vs = true ∧ ds.length ≤ 1000000 ∧ ∃ W : Nat → En → List D → Prop, W 0 e1 [] ∧
  (∀ i c e2 acc, ds[i]? = some c → W i e2 acc → clearB e2 vs = true ∧ g c e2 fun e3 => tt e3 fun b e4 => if b = true then f e4 fun r e5 => ∃ d e6, frz e5 r = some (d, e6) ∧ W (i + 1) (wipeE e6 vs) (acc ++ [d]) else W (i + 1) (wipeE e4 vs) acc) ∧
  ∀ e2 acc, W ds.length e2 acc → ∀ a, P (.ent (.own a (.lst acc))) e2
theorem wipe_clear {e : En} {vs : List Nat} (hcl : clearB e vs = true) : wipeE e vs = e := by
  refine List.ext_getElem? fun i => ?_
  by_cases hi : i ∈ vs
  · have z := List.all_eq_true.mp hcl i hi
    have lw := wipeE_len (e := e) vs
    cases q : e[i]? with
    | none =>
      rw [List.getElem?_eq_none_iff] at q ⊢
      omega
    | some o =>
      cases o with
      | some t => rw [q] at z; cases z
      | none =>
        cases q2 : (wipeE e vs)[i]? with
        | none =>
          rw [List.getElem?_eq_none_iff] at q2
          have := (List.getElem?_eq_some_iff.mp q).1
          omega
        | some o2 =>
          cases o2 with
          | none => rfl
          | some t => exact absurd hi (wipeE_some q2).2
  · exact wipeE_out hi
section
variable {X : Cx} {F : Fr} {elt tg iter : Expr} {ifs : List Expr} {scope : Scope} {own : List (Str × Nat)} {pos : Pos} {w : EvI} {g : TgF} {tt : EvT} {f : EvF} {sl : List Nat}
theorem DT.lcG {wi : TI} {vs : List Nat} (hw : DTI F wi w) (hsl : ∀ j ∈ sl, j ∈ vs) : DT F (tLc wi (tOfG F.nox g sl) (tOfT F.nox tt) (tOf F.nox f) vs) (eLcG w g tt f vs) := fun σ I H e ps P Q s h k => by
  refine hw σ I H e ps _ _ s h fun J ds qs e1 I1 H1 h1 hqs s1 itd => ?_
  obtain ⟨hcl, hz, W, w0, turn, fin⟩ := h1
  have nps : NoSl vs (ps ++ qs) := clear_no s1 hcl
  intro D hD
  have wE : wipeE e1 vs = e1 := wipe_clear hcl
  have sW := s1.wipe nps
  rw [wE] at sW
  have s0 : ST F (L2.wipe σ vs) I1 (upd H1 D (.lst [])) e1 (ps ++ qs ++ [(V.ref D, .ent (.own D (.lst [])))]) := sW.pushG (t := .own D (.lst [])) (Grow.alloc s1.sub hD) ⟨rfl, s1.sub.none hD, [], upd_same, .nil⟩ fun a ha => by simp at ha; subst ha; exact hD
  have nD : ∀ acc : List TK.D, NoSl vs (ps ++ qs ++ [(V.ref D, .ent (.own D (.lst acc)))]) := fun acc p hp j q => by
    rcases List.mem_append.mp hp with m | m
    · exact nps p m j q
    · rw [List.mem_singleton] at m
      subst m
      cases q
  refine ⟨fun i m H => m = ds.length - i ∧ i ≤ ds.length ∧ ∃ (acc : List TK.D) (I : Hp) (e2 : En), acc.length ≤ i ∧ W i e2 acc ∧ ST F (L2.wipe σ vs) I H e2 (ps ++ qs ++ [(V.ref D, .ent (.own D (.lst acc)))]) ∧ (i = 0 → clearB e2 vs = true) ∧ wipeE e2 vs = e2, ⟨ds.length, by simp, Nat.zero_le _, [], I1, e1, Nat.zero_le _, w0, s0, fun _ => hcl, wE⟩, ?_⟩
  rintro i m H2 ⟨rfl, hi, acc, I2, e2, hacc, w2, s2, _, wE2⟩
  have hold : Holds F.K I2 qs := (ST.weak (ps := ps ++ qs) s2).holds
  by_cases hlt : i < ds.length
  · refine .inr ⟨itd.go I2 H2 i s2.sub hold hlt, fun H' => ∃ (acc : List TK.D) (I : Hp) (e2 : En), acc.length ≤ i + 1 ∧ W (i + 1) e2 acc ∧ ST F (L2.wipe σ vs) I H' e2 (ps ++ qs ++ [(V.ref D, .ent (.own D (.lst acc)))]) ∧ (i + 1 = 0 → clearB e2 vs = true) ∧ wipeE e2 vs = e2, fun H' z => ⟨ds.length - (i + 1), by omega, rfl, hlt, z⟩, fun x H3 hy => ?_⟩
    obtain ⟨I3, c, g3, hc3, rx⟩ := itd.yld I2 H2 i x H3 s2.sub hold hlt hy
    have s3 := (s2.grow g3).nox
    obtain ⟨cl2, tu⟩ := turn i c e2 acc hc3 w2
    refine ⟨c, I3, e2, _, _, fun p hp j q m => nD acc p hp j q (hsl j m), s3, rx, tu, fun σ4 e4 h4 s4 so => ?_⟩
    have sw : wipe σ4 vs = wipe σ vs := by
      have z := wipe_same (vs := vs) (σ := L2.wipe σ vs) (σ' := σ4) ⟨so.1, fun j hj => so.2 j fun m => hj (hsl j m)⟩
      rw [z]
      exact wipe_same (vs := vs) ⟨wipe_length .., fun j hj => wipe_out hj⟩
    have ww : ∀ e : En, wipeE (wipeE e vs) vs = wipeE e vs := fun e => by
      refine List.ext_getElem? fun i => ?_
      by_cases hi : i ∈ vs
      · cases q : (wipeE e vs)[i]? with
        | none => rw [List.getElem?_eq_none_iff] at q ⊢; rw [wipeE_len]; exact q
        | some o =>
          cases o with
          | some t => exact absurd hi (wipeE_some q).2
          | none =>
            cases q2 : (wipeE (wipeE e vs) vs)[i]? with
            | none =>
              rw [List.getElem?_eq_none_iff, wipeE_len] at q2
              have := (List.getElem?_eq_some_iff.mp q).1
              omega
            | some o2 =>
              cases o2 with
              | none => rfl
              | some t => exact absurd hi (wipeE_some q2).2
      · exact wipeE_out hi
    refine ⟨sw, I3, e4, _, _, s4, h4, fun b e5 I5 H5 h5 s5 => ?_⟩
    cases b with
    | false =>
      have s6 := s5.unnox.wipe (vs := vs) (nD acc)
      rw [sw] at s6
      exact ⟨acc, I5, _, by omega, h5, s6, fun z => by omega, ww _⟩
    | true =>
      refine ⟨I5, e5, _, _, s5, h5, fun y r e6 I6 H6 h6 s6 => ?_⟩
      obtain ⟨d, e7, hf, q2⟩ := h6
      obtain ⟨I7, _, s7⟩ := s6.unnox.frz hf
      have ry : Rep F.K I7 y d := ST.temp (qs := []) (t := .imm d) s7
      have s8 := ST.weak s7
      have rD : EntR F.K I7 H6 (.ref D) (.own D (.lst acc)) := ST.temp (ps := ps ++ qs) (qs := []) s8
      obtain ⟨_, _, xs, hx, rr⟩ := rD
      have lx := rr.len
      refine ⟨xs, hx, by rw [lx]; exact Nat.lt_of_le_of_lt (m := 1000000) (by omega) (by decide), acc ++ [d], I7, _, by simp; omega, q2, ?_, fun z => by omega, ww _⟩
      have s9 := ST.mutT (ps := ps ++ qs) (qs := []) (d' := .lst (acc ++ [d])) (o := .lst (xs ++ [y])) s8 ⟨xs ++ [y], upd_same, rr.app (.cons ry .nil)⟩
      have s10 := s9.wipe (vs := vs) (nD _)
      rw [sw] at s10
      exact s10
  · have hi' : i = ds.length := by omega
    subst hi'
    refine .inl ⟨itd.stop I2 H2 s2.sub hold, ?_⟩
    rw [← wE2] at s2
    have z := ST.drop (s2.unwipe (nD acc))
    rw [wE2] at z
    exact k _ _ _ I2 H2 (fin e2 acc w2 D) z
theorem de_lcG (hc : X.calm = true) (hN : X.N.Nodup) (hi : DI X F tg iter w) (ok : BlkOk X.N X.env.scope scope own)
    (hg : ∀ (s : Shared) (H : Hp) (C : Addr) (cl : List (Str × Addr)) (fp : List Addr), DGt (X.blk s H scope (compEnvC scope cl C X.env) fp) F.nox tg g sl) (ht : ∀ (s : Shared) (H : Hp) (C : Addr) (cl : List (Str × Addr)) (fp : List Addr), DTs (X.blk s H scope (compEnvC scope cl C X.env) fp) F.nox ifs tt)
    (he : ∀ (s : Shared) (H : Hp) (C : Addr) (cl : List (Str × Addr)) (fp : List Addr), DE (X.blk s H scope (compEnvC scope cl C X.env) fp) F.nox elt f) (hsl : (sl.all fun j => (own.map (·.2)).contains j) = true) (hs : ∀ x, foldedSetIterable iter X.env x = pure x := by intro _; rfl) :
    DE X F (.ListComp elt [⟨tg, iter, ifs, 0⟩] scope pos) (eLcG w g tt f (own.map (·.2))) := by
  obtain ⟨wi, pi, di⟩ := hi
  exact ⟨_, pe_lc hc hN pi ok (fun s H C cl fp => (hg s H C cl fp).tof) (fun s H C cl fp => (ht s H C cl fp).tof) (fun s H C cl fp => (he s H C cl fp).tof) hs, DT.lcG di fun j hj => List.contains_iff_mem.mp (List.all_eq_true.mp hsl j hj)⟩
theorem ds_setLcG {i : Nat} {y : Str} {py spos : Pos} (hc : X.calm = true) (hN : X.N.Nodup) (hy : X.N[i]? = some y) (hyl : X.env.scope.names.lookup y = some .local)
    (hsw : swapsWith (.ListComp elt [⟨tg, iter, ifs, 0⟩] scope pos) (some (.Name y py)) spos.line X.env = pure true) (hi : DI X F tg iter w) (ok : BlkOk X.N X.env.scope scope own)
    (hg : ∀ (s : Shared) (H : Hp) (C : Addr) (cl : List (Str × Addr)) (fp : List Addr), DGt (X.blk s H scope (compEnvC scope cl C X.env) fp) F.nox tg g sl) (ht : ∀ (s : Shared) (H : Hp) (C : Addr) (cl : List (Str × Addr)) (fp : List Addr), DTs (X.blk s H scope (compEnvC scope cl C X.env) fp) F.nox ifs tt)
    (he : ∀ (s : Shared) (H : Hp) (C : Addr) (cl : List (Str × Addr)) (fp : List Addr), DE (X.blk s H scope (compEnvC scope cl C X.env) fp) F.nox elt f) (hsl : (sl.all fun j => (own.map (·.2)).contains j) = true) (hs : ∀ x, foldedSetIterable iter X.env x = pure x := by intro _; rfl) :
    DS X F (.Assign [.Name y py] (.ListComp elt [⟨tg, iter, ifs, 0⟩] scope pos) spos) (sSet i (eLcG w g tt f (own.map (·.2)))) := by
  obtain ⟨wi, pi, di⟩ := hi
  refine ⟨_, ps_setLc hc hN hy hyl hsw pi ok (fun s H C cl fp => (hg s H C cl fp).tof) (fun s H C cl fp => (ht s H C cl fp).tof) (fun s H C cl fp => (he s H C cl fp).tof) hs, fun σ I H e ps d D hp s h k => ?_⟩
  refine DT.lcG di (fun j hj => List.contains_iff_mem.mp (List.all_eq_true.mp hsl j hj)) σ I H e ps _ _ s h fun x r e1 I1 H1 h1 s1 => ?_
  obtain ⟨e2, ha, h2⟩ := h1
  obtain ⟨I2, s2⟩ := s1.asg (hp.no _) ha
  exact k.nx _ I2 H1 e2 h2 s2
theorem s_lcG {e : En} {P : Rv → En → Prop} {vs : List Nat} (k : w e fun ds e1 => clearB e1 vs = true ∧ ds.length ≤ 1000000 ∧ ∃ W : Nat → En → List D → Prop, W 0 e1 [] ∧
  (∀ i c e2 acc, ds[i]? = some c → W i e2 acc → clearB e2 vs = true ∧ g c e2 fun e3 => tt e3 fun b e4 => if b = true then f e4 fun r e5 => ∃ d e6, frz e5 r = some (d, e6) ∧ W (i + 1) (wipeE e6 vs) (acc ++ [d]) else W (i + 1) (wipeE e4 vs) acc) ∧
  ∀ e2 acc, W ds.length e2 acc → ∀ a, P (.ent (.own a (.lst acc))) e2) : eLcG w g tt f vs e P := k
end
/-! ### arguments that never change -/
section
variable {K : PySem.W.Frag} {I H I' H' : Hp} {vs : List V} {ds : List D} {x : V} {t : Ent}
/-- arguments that never change -/
theorem imm_in : ∀ {vs : List V} {ds : List D}, EnvR K I H (vs.map some) ((ds.map Ent.imm).map some) → Reps K I vs ds
  | [], [], _ => .nil
  | [], _ :: _, e => by have := e.len; simp at this
  | _ :: _, [], e => by have := e.len; simp at this
  | v :: vs, d :: ds, e => by
    obtain ⟨y, y1, y2⟩ := e.at_ 0 (.imm d) rfl
    simp at y1
    subst y1
    refine .cons y2 (imm_in ⟨by have := e.len; simpa using this, fun i t q => e.at_ (i + 1) t q, fun i j t u a q1 q2 m1 m2 => ?_⟩)
    have := e.sep (i + 1) (j + 1) t u a q1 q2 m1 m2
    omega
theorem imm_env : ∀ {vs : List V} {ds : List D}, Reps K I vs ds → EnvR K I H (vs.map some) ((ds.map Ent.imm).map some) := fun {vs ds} r => by
  refine ⟨by simp [r.len], fun i t q => ?_, fun i j t u a q1 q2 m1 m2 => ?_⟩
  · rw [List.map_map, List.getElem?_map] at q
    cases z : ds[i]? with
    | none => rw [z] at q; cases q
    | some d =>
      rw [z] at q
      cases q
      obtain ⟨y, y1, y2⟩ := r.get z
      exact ⟨y, by rw [List.getElem?_map, y1]; rfl, y2⟩
  · rw [List.map_map, List.getElem?_map] at q1
    cases z : ds[i]? with
    | none => rw [z] at q1; cases q1
    | some d => rw [z] at q1; cases q1; simp at m1
theorem adr_imms (ds : List D) : adr ((ds.map Ent.imm).map some) = [] := by
  unfold adr
  induction ds with
  | nil => rfl
  | cons d ds ih => rw [List.map_cons, List.map_cons, List.flatMap_cons, ih]; rfl
theorem imm_out (env : EnvR K I H (vs.map some) ((ds.map Ent.imm).map some)) (g : Grow I H I' H') (r : EntR K I' H' x t) (nt : ∀ a ∈ t.adr, H a = none) :
    EnvR K I' H' (vs.map some ++ [some x]) ((ds.map Ent.imm).map some ++ [some t]) ∧ Step ((ds.map Ent.imm).map some) I H ((ds.map Ent.imm).map some ++ [some t]) I' H' := by
  refine ⟨(imm_env ((imm_in env).mono g.le)).push r fun a _ z => by rw [adr_imms] at z; simp at z, ⟨g.le, fun a o q _ => g.same a o q, fun a ha => ?_, fun a o q => ?_⟩⟩
  · rcases mem_push.mp ha with z | ⟨u, e, z⟩
    · rw [adr_imms] at z; simp at z
    · cases e; exact .inr (nt a z)
  · rcases g.new a o q with w | w
    · exact .inl w
    · exact .inr (.inr w)
theorem imm_exc (env : EnvR K I H (vs.map some) ((ds.map Ent.imm).map some)) (g : Grow I H I' H') :
    EnvR K I' H' (vs.map some) ((ds.map Ent.imm).map some) ∧ Step ((ds.map Ent.imm).map some) I H ((ds.map Ent.imm).map some) I' H' :=
  ⟨imm_env ((imm_in env).mono g.le), ⟨g.le, fun a o q _ => g.same a o q, fun a ha => .inl ha, fun a o q => by
    rcases g.new a o q with w | w
    · exact .inl w
    · exact .inr (.inr w)⟩⟩
end
theorem FnOk.lift {P : Program} {w : World} {K : PySem.W.Frag} {mg : Str → Option Value} {base : Heap} {CX : CXT} {k : Nat} {f : Addr} {fd : FuncData} {ps : List Str} {sp sp' : Sp} (F : FnOk P w K mg base CX0 k f fd ps sp)
    (h : ∀ vs H Q E, sp' vs H Q E → sp vs H Q E) : FnOk P w K mg base CX k f fd ps sp' :=
  ⟨fun vs H Q E q => F.len vs H Q E (h _ _ _ _ q), fun A outer s H args us vs Q E hr he hb hv hs => codeAny_mono (F.run A outer s H args us vs Q E hr he hb hv (h _ _ _ _ hs)) fun r s' q => by
    cases r with
    | ok fl => cases fl <;> exact q
    | error e => exact False.elim q⟩
abbrev Ent.int (i : Int) : Ent := .imm (.int i)
theorem ints_of {K : PySem.W.Frag} {I : Hp} : ∀ {xs : List V} {ns : List Int}, Reps K I xs (ns.map D.int) → xs = ns.map V.int
  | _, [], r => by cases r; rfl
  | _, n :: ns, r => by
    rw [List.map_cons] at r
    cases r with
    | cons r1 r2 => cases r1; rw [ints_of r2]; rfl
theorem ints_in {K : PySem.W.Frag} {I : Hp} : ∀ ns : List Int, Reps K I (ns.map V.int) (ns.map D.int)
  | [] => .nil
  | n :: ns => .cons (.int n) (ints_in ns)
theorem ite_d {p : Prop} [Decidable p] {A B : Prop} (h1 : p → A) (h2 : ¬ p → B) : if decide p = true then A else B := by
  by_cases h : p
  · rw [if_pos (decide_eq_true h)]; exact h1 h
  · rw [if_neg (by rw [decide_eq_true_iff]; exact h)]; exact h2 h
theorem ite_nd {p : Prop} [Decidable p] {A B : Prop} (h1 : ¬ p → A) (h2 : p → B) : if (!decide p) = true then A else B := by
  by_cases h : p
  · rw [decide_eq_true h]; exact (if_neg (by decide)).mpr (h2 h)
  · rw [decide_eq_false h]; exact (if_pos rfl).mpr (h1 h)
theorem ite_nb {b : Bool} {A B : Prop} (h1 : b = false → A) (h2 : b = true → B) : if (!b) = true then A else B := by
  cases b
  · exact h1 rfl
  · exact h2 rfl
theorem ite_b {b : Bool} {A B : Prop} (h1 : b = true → A) (h2 : b = false → B) : if b = true then A else B := by
  cases b
  · exact h2 rfl
  · exact h1 rfl
theorem map_get {α β : Type} {f : α → β} {l : List α} {i : Nat} {c : β} (h : (l.map f)[i]? = some c) : ∃ z, l[i]? = some z ∧ c = f z := by
  rw [List.getElem?_map] at h
  cases e : l[i]? with
  | none => rw [e] at h; cases h
  | some z => rw [e] at h; exact ⟨z, rfl, (Option.some.inj h).symm⟩
theorem take_suc {α : Type} {l : List α} {i : Nat} {z : α} (h : l[i]? = some z) : l.take (i + 1) = l.take i ++ [z] := by
  rw [List.take_add_one, h]; rfl
section
variable {e : En} {P : Rv → En → Prop} {fd fk fx : EvF} {r : Rv}
theorem s_dget1 (k : fd e fun r1 e1 => (∃ c, val e1 r1 = some c ∧ ((∃ es, c = .dic es) ∨ ∃ es, c = .dik es)) ∧ fk e1 fun r2 e2 => ∃ c d, val e2 r1 = some c ∧ val e2 r2 = some d ∧ dLook c d fun p => P (.im (p.getD .non)) e2) : eDGet1 fd fk e P := k
theorem s_dget2 (k : fd e fun r1 e1 => (∃ c, val e1 r1 = some c ∧ ((∃ es, c = .dic es) ∨ ∃ es, c = .dik es)) ∧ fk e1 fun r2 e2 => fx e2 fun r3 e3 => ∃ c d q e4, val e3 r1 = some c ∧ val e3 r2 = some d ∧ frz e3 r3 = some (q, e4) ∧ dLook c d fun p => P (.im (p.getD q)) e4) : eDGet2 fd fk fx e P := k
theorem x_isT {R : Prop} {es : List (List Key × D)} (h : val e r = some (.dic es)) (k : R) : (∃ c, val e r = some c ∧ ((∃ es, c = .dic es) ∨ ∃ es, c = .dik es)) ∧ R := ⟨⟨_, h, .inl ⟨es, rfl⟩⟩, k⟩
theorem x_isK {R : Prop} {es : List (Key × D)} (h : val e r = some (.dik es)) (k : R) : (∃ c, val e r = some c ∧ ((∃ es, c = .dic es) ∨ ∃ es, c = .dik es)) ∧ R := ⟨⟨_, h, .inr ⟨es, rfl⟩⟩, k⟩
theorem x_get2 {r1 r2 r3 : Rv} {c d q : D} {e1 : En} {R : D → D → D → En → Prop} (h1 : val e r1 = some c) (h2 : val e r2 = some d) (h3 : frz e r3 = some (q, e1)) (k : R c d q e1) : ∃ c d q e4, val e r1 = some c ∧ val e r2 = some d ∧ frz e r3 = some (q, e4) ∧ R c d q e4 := ⟨c, d, q, e1, h1, h2, h3, k⟩
end
theorem x_px {K : PySem.W.Frag} {es es' : List Ent} {I H : Hp} {E : XK} {PX : Addr → D → List Ent → Prop} {C : Addr} {d : D} {e : En} (b : BackE es e es') (k : PX C d es') : (frOf K es I H E PX).PX C d e := ⟨es', b, k⟩
theorem s_cut {e : En} {d : Ed} {f g : SvF} (J : En → Prop) (h : f e { d with nx := J }) (k : ∀ e1, J e1 → g e1 d) : sCut f g e d := ⟨J, h, k⟩
theorem o_eqP {a b c d : Int} {P : Ent → Prop} (k : P (.imm (.bl (decide (a = c ∧ b = d))))) : oEq (.tup [.int a, .int b]) (.tup [.int c, .int d]) P := by
  refine ⟨rfl, rfl, ?_⟩
  have e : eqD (.tup [.int a, .int b]) (.tup [.int c, .int d]) = decide (a = c ∧ b = d) := by
    unfold eqD
    simp only [toPy, toPys, PyData.eqv, PyData.eqvAll, Bool.and_true]
    by_cases h1 : a = c <;> by_cases h2 : b = d <;> simp [h1, h2]
  rw [e]
  exact k
def oNeg : DO1
  | .int i, P => P (.imm (.int (-i)))
  | _, _ => False
theorem o_neg {i : Int} {P : Ent → Prop} (k : P (.imm (.int (-i)))) : oNeg (.int i) P := k
theorem de_neg {X : Cx} {F : Fr} {a : Expr} {f : EvF} {pos : Pos} (h : DE X F a f) : DE X F (.UnaryOp .USub a pos) (eUn oNeg f) := by
  obtain ⟨t, p, d⟩ := h
  refine ⟨_, pe_un un_neg p, DT.un (fun I H x c P Q s v h k => ?_) d⟩
  cases c with
  | int i =>
    rw [v.int]
    exact ⟨i, rfl, k.imm s h (.int _)⟩
  | _ => exact h.elim
theorem hu65_of {k : Nat} {A : Around} (r : Room k A) : A.units + 65 < cLine := by have := r.un; omega
section
variable {e : En} {P : Rv → En → Prop}
theorem x_lenN {z : Int} {R : Int → Prop} (h0 : 0 ≤ z) (h1 : z < 2 ^ 63) (k : R z) : ∃ n : Int, Rv.ent (.imm (.int z)) = .ent (.imm (.int n)) ∧ 0 ≤ n ∧ n < 2 ^ 63 ∧ R n := ⟨z, rfl, h0, h1, k⟩
theorem x_noa {fs : List (Str × D)} {m : Str} {R : Prop} (h : fs.lookup m = none) (k : R) : fs.lookup m = none ∧ R := ⟨h, k⟩
theorem o_ixH {c : D} {xs : List D} {P : Ent → Prop} (k : P (.imm c)) : oIx (.lst (c :: xs)) (.int 0) P := by
  refine ⟨0, c, ?_, rfl, k⟩
  unfold ixN
  simp
  try omega
def oIsNB : DO2
  | .bl a, .bl b, P => P (.imm (.bl (!decide (a = b))))
  | _, _, _ => False
theorem o_isNB {a b : Bool} {P : Ent → Prop} (k : P (.imm (.bl (!decide (a = b))))) : oIsNB (.bl a) (.bl b) P := k
theorem dor_isNotB {X : Cx} : DOR X (compareOp .IsNot) oIsNB := ⟨_, op_notBl, fun I H x y c d P Q s v1 v2 h k => by
  cases c with
  | bl a =>
    cases d with
    | bl b =>
      rw [v1.bl, v2.bl]
      exact ⟨a, b, rfl, rfl, k.imm s h (.bl _)⟩
    | _ => exact h.elim
  | _ => exact h.elim⟩
theorem x_le1000 {α : Type} {xs : List α} {R : Prop} (h : Nat.ble xs.length 1000 = true) (k : R) : xs.length ≤ 1000 ∧ R := ⟨Nat.le_of_ble_eq_true h, k⟩
end
/-! ### the law's end; a name whose list is not changed any more -/
theorem FnOk.calm {P : Program} {w : World} {K : PySem.W.Frag} {mg : Str → Option Value} {base : Heap} {k : Nat} {f : Addr} {fd : FuncData} {ps : List Str} {sp sp' : Sp} (F : FnOk P w K mg base (L2.CX P w) k f fd ps sp)
    (h : ∀ vs H Q E, sp' vs H Q E → sp vs H Q fun _ _ _ => False) : FnOk P w K mg base CX0 k f fd ps sp' :=
  ⟨fun vs H Q E q => F.len vs H Q _ (h _ _ _ _ q), fun A outer s H args us vs Q E hr he hb hv hs => codeAny_mono (F.run A outer s H args us vs Q _ hr he hb hv (h _ _ _ _ hs)) fun r s' q => by
    cases r with
    | ok fl => cases fl <;> exact q
    | error e =>
      obtain ⟨_, _, _, _, _, _, _, _, _, _, _, _, z⟩ := q
      exact z.elim⟩
def spLaw (K : PySem.W.Frag) : Sp := fun vs H Q _ => ∃ (a : Addr) (ns : List Int), vs = [.ref a] ∧ SqL K H a (ns.map V.int) ∧ ns.length ≤ 63 ∧ ∀ H', Q (.bl true) H'
def conLaw : Con := fun es P _ => ∃ ns : List Int, es = [.imm (.fls (ns.map D.int))] ∧ ns.length ≤ 63 ∧ P (.imm (.bl true)) es
theorem law_of {K : PySem.W.Frag} (vs : List V) (H : Hp) (Q : VK) (E : XK) (h : spLaw K vs H Q E) : spD K conLaw vs H Q fun _ _ _ => False := by
  obtain ⟨a, ns, rfl, hs, hl, kk⟩ := h
  have s0 : Sub (fun b => if b = a then H b else none) H := fun b o q => by
    dsimp only at q
    split at q
    · exact q
    · cases q
  refine ⟨fun b => if b = a then H b else none, [.imm (.fls (ns.map D.int))], fun t es => t = .imm (.bl true), fun _ _ _ => False, s0, ?_, ⟨ns, rfl, hl, rfl⟩, fun r es' x I' H' hp sub env st => ?_, fun C d es' x dd I' H' hp _ _ _ _ _ => hp⟩
  · refine imm_env (ds := [.fls (ns.map D.int)]) (.cons (.fls ?_ (ints_in ns)) .nil)
    rcases hs with hs | hs
    · refine .inl ?_
      rcases hs with hs | ⟨o, hs⟩
      · exact .inl (by dsimp only; rw [if_pos rfl]; exact hs)
      · exact .inr ⟨o, by dsimp only; rw [if_pos rfl]; exact hs⟩
    · exact .inr hs
  · subst hp
    have e : x = .bl true := by
      have l := st.imm
      obtain ⟨y, y1, y2⟩ := env.at_ es'.length (.imm (.bl true)) (by simp)
      have hl2 : es'.length = 1 := by
        have := env.len
        simpa using this
      rw [hl2] at y1
      simp at y1
      cases y2
      exact y1
    rw [e]
    exact kk H'
/-- statement s, and what stands in slot i is not changed any more -/
def sFz (i : Nat) (s : SvF) : SvF := fun e d => s e { d with nx := fun e1 => ∃ c e2, frz e1 (.slot i) = some (c, e2) ∧ d.nx e2 }
theorem s_fz {i : Nat} {s : SvF} {e : En} {d : Ed} (k : s e { d with nx := fun e1 => ∃ c e2, frz e1 (.slot i) = some (c, e2) ∧ d.nx e2 }) : sFz i s e d := k
theorem ds_fz {X : Cx} {F : Fr} {st : Stmt} {s : SvF} (i : Nat) (h : DS X F st s) : DS X F st (sFz i s) := by
  obtain ⟨t, p, d⟩ := h
  refine ⟨t, p, fun σ I H e ps dd D hp s1 h k => d σ I H e ps _ D hp s1 h ⟨fun σ' I' H' e' h' s' => ?_, k.rt, k.bk, k.ct⟩⟩
  obtain ⟨c, e2, hf, h2⟩ := h'
  obtain ⟨t0, ht⟩ : ∃ t0, e'[i]? = some (some t0) := by
    unfold frz at hf
    cases q : e'[i]? with
    | none => simp [q] at hf
    | some o =>
      cases o with
      | none => simp [q] at hf
      | some t0 => exact ⟨t0, rfl⟩
  obtain ⟨x, hx, _⟩ := s'.slot ht
  obtain ⟨I2, _, s2⟩ := (s'.pushS hx ht).frz (qs := []) hf
  exact k.nx σ' I2 H' e2 h2 s2.weak
theorem rng_get {lo : Int} {n i : Nat} {c : D} (h : (rngD lo 1 n)[i]? = some c) : i < n ∧ c = .int (lo + i) := by
  have z := (List.getElem?_eq_some_iff.mp h).1
  rw [rngD_len] at z
  rw [rngD_at z, Int.mul_one] at h
  exact ⟨z, (Option.some.inj h).symm⟩
/-! ### try: body, except C as n: one line -/
section
variable {K : PySem.W.Frag} {F : Fr} {σ σ' : L2.St} {I H I' H' : Hp} {e e' : En} {ps qs : Tm} {W : WX} {PX : Addr → D → En → Prop}
/-- the frame of a try's body: from here on -/
abbrev frTry (K : PySem.W.Frag) (e : En) (ps : Tm) (I H : Hp) (W : WX) (PX : Addr → D → En → Prop) : Fr := ⟨K, e ++ tn ps, I, H, W, PX⟩
theorem ST.here (s : ST F σ I H e ps) : ST (frTry F.K e ps I H W PX) σ I H e ps := ⟨s.sub, s.len, s.env, s.ali, Step.refl⟩
theorem ST.rebase (s0 : ST F σ I H e ps) (s : ST (frTry F.K e ps I H W PX) σ' I' H' e' qs) : ST F σ' I' H' e' qs := ⟨s.sub, s.len, s.env, s.ali, s0.base.trans s.base⟩
theorem ST.imms (s : ST F σ I H e []) : ∀ {ps : Tm}, (∀ p ∈ ps, ∃ d, p.2 = Rv.im d ∧ Rep F.K I p.1 d) → ST F σ I H e ps := by
  have go : ∀ {ps qs : Tm}, ST F σ I H e qs → (∀ p ∈ ps, ∃ d, p.2 = Rv.im d ∧ Rep F.K I p.1 d) → ST F σ I H e (qs ++ ps) := by
    intro ps
    induction ps with
    | nil => intro qs s _; simpa using s
    | cons p ps ih =>
      intro qs s h
      obtain ⟨d, e1, r⟩ := h p (by simp)
      have s2 := s.pushI r
      have z := ih s2 fun q hq => h q (by simp [hq])
      obtain ⟨x, rv⟩ := p
      dsimp only at e1
      subst e1
      rw [List.append_assoc] at z
      exact z
  intro ps h
  exact go (qs := []) s h
theorem ST.imreps (s : ST F σ I H e ps) (hp : Imms ps) : ∀ p ∈ ps, ∃ d, p.2 = Rv.im d ∧ Rep F.K I p.1 d := fun p m => by
  obtain ⟨d, hd⟩ := hp p m
  obtain ⟨l, r, rfl⟩ := List.append_of_mem m
  obtain ⟨x, rv⟩ := p
  dsimp only at hd
  subst hd
  exact ⟨d, rfl, ST.temp (t := .imm d) s⟩
/-- a slot of which nothing is told may hold anything -/
theorem ST.junk {i : Nat} {o : Option V} (s : ST F σ I H e ps) (hp : Imms ps) (h : e[i]? = some none) : ST F (σ.set i o) I H e ps where
  sub := s.sub
  len := by rw [List.length_set]; exact s.len
  env := by
    have hi := (List.getElem?_eq_some_iff.mp h).1
    refine ⟨by have := s.env.len; simp only [List.length_append, List.length_set] at this ⊢; exact this, fun j t q => ?_, s.env.sep⟩
    obtain ⟨x, e1, e2⟩ := s.env.at_ j t q
    refine ⟨x, ?_, e2⟩
    have hij : j ≠ i := fun z => by
      subst z
      rw [List.getElem?_append_left hi, h] at q
      cases q
    by_cases hl : j < σ.length
    · rw [List.getElem?_append_left hl] at e1
      rw [List.getElem?_append_left (by rw [List.length_set]; exact hl), List.getElem?_set_ne (Ne.symm hij)]
      exact e1
    · rw [List.getElem?_append_right (by omega)] at e1
      rw [List.getElem?_append_right (by rw [List.length_set]; omega), List.length_set]
      exact e1
  ali := fun p m j q => by
    obtain ⟨d, hd⟩ := hp p m
    rw [hd] at q
    cases q
  base := s.base
end
/-- what the clause's suite does with the value -/
structure SuD (X : Cx) (F : Fr) (C : Addr) (i : Nat) (suite : List Stmt) (g : D → SvF) : Prop where
  ex : ∃ ts : Addr → Value → Option Addr → TS, (∀ (a : Addr) (oe : Obj) (cls : Value) (d : Option Addr) (pn : List (Addr × Obj)), Zc cls d oe → (∃ vs, oe.data = .fields vs) → PSs (X.suite a ((a, oe) :: pn)) suite (ts a cls d)) ∧
    ∀ (σ : L2.St) (I H : Hp) (e : En) (ps : Tm) (dd a : Addr) (x : V) (z : D) (d : Ed) (D : Ends), Imms ps → ST F σ I H e ps → Rep F.K I x z → H dd = some (.xd [(("value" : Str), x)]) → g z e d → EdR F ps d D →
      ts a (.ref C) (some dd) { nx := fun σ' H' => D.nx (σ'.set i none) H', rt := D.rt, bk := fun σ' H' => D.bk (σ'.set i none) H', ct := fun σ' H' => D.ct (σ'.set i none) H' } (σ.set i (some (.ref a))) H
def sTry (C : Addr) (f : Fr → SvF) (g : D → SvF) : SvF := fun e d => ∀ F' : Fr, F'.PX = (fun C' z e' => C' = C ∧ g z e' d) → f F' e d
theorem ds_try {X : Cx} {F : Fr} {x n : Str} {C : Addr} {i : Nat} {body suite : List Stmt} {b₀ : Stmt} {np pos pos' : Pos} {f : Fr → SvF} {g : D → SvF}
    (hs : X.stack = X.env :: X.outer) (hf : X.env.frame = some X.env.locals) (hN : X.N.Nodup) (hi : X.N[i]? = some n) (hln : X.env.kindOf n = some .local) (hc : Names X x (.ref C)) (te : PySem.W.exmOne X.K (.ref C) (.ref C) = some true)
    (hb : ∀ (pn : List (Addr × Obj)) (xe : Value → Shared → Prop) (F' : Fr), F'.K = X.K → Takes (X.tr pn xe) F'.W → FrOk F' → DSs (X.tr pn xe) F' body (f F'))
    (hg : SuD X F C i (b₀ :: suite) g) (hK : F.K = X.K := by first | rfl | assumption) :
    DS X F (.Try body [.ExceptHandler (some (.Name x np)) (some n) (b₀ :: suite) pos'] [] [] pos) (sTry C f g) := by
  obtain ⟨ts, hsu, hd⟩ := hg
  let tb : WX → TS := fun W D σ H => ∃ (I : Hp) (e : En) (ps : Tm) (d : Ed) (F' : Fr), F'.K = X.K ∧ F'.W = W ∧ FrOk F' ∧ Imms ps ∧ ST F' σ I H e ps ∧ f F' e d ∧ EdR F' ps d D
  refine ⟨_, ps_try_as (tb := tb) (Wout := fun _ _ _ _ => False) hs hf hN hi hln hc takes0 (fun W pn xe tk _ => ⟨fun pins s σ H D Iv h => ?_⟩) hsu, fun σ I H e ps d D hp s h k => ?_⟩
  · obtain ⟨I, e, ps, d, F', hk, rfl, fo, im, st, hf', ed⟩ := h
    obtain ⟨t, p, dts⟩ := hb pn xe F' hk tk fo
    exact p.run pins s σ H D Iv (dts σ I H e ps d D im st hf' ed)
  · refine ⟨I, e, ps, d, frTry F.K e ps I H (wAs X.K (.ref C) i ts (fun _ _ _ _ => False) D) (fun C' z e' => C' = C ∧ g z e' d), hK, rfl, ?_, hp, s.here, h _ rfl, ?_⟩
    · rintro σ' I' H' e' qs C' z x' dd s' ⟨rfl, hz⟩ rx hx
      refine ⟨true, te, fun _ a ha => ?_, fun z => nomatch z⟩
      have s1 : ST F σ' I' H' e' [] := ST.weak (ps := []) (qs := qs) (s.rebase s')
      have s2 : ST F σ' I' H' e' ps := s1.imms fun p m => by
        obtain ⟨d', e1, r⟩ := s.imreps hp p m
        exact ⟨d', e1, r.mono s'.base.imm⟩
      exact hd σ' I' H' e' ps dd a x' z d D hp s2 rx hx hz k
    · exact ⟨fun σ' I' H' e' h' s' => k.nx σ' I' H' e' h' (s.rebase s'), fun x r σ' I' H' e' h' s' => k.rt x r σ' I' H' e' h' (s.rebase s'), fun σ' I' H' e' h' s' => k.bk σ' I' H' e' h' (s.rebase s'), fun σ' I' H' e' h' s' => k.ct σ' I' H' e' h' (s.rebase s')⟩
/-- x = e.value -/
def gVal (i j : Nat) : D → SvF := fun z e d => e[i]? = some none ∧ ∃ e2, asg e j (.im z) = some e2 ∧ d.nx e2
/-- x = ("C", e.value) -/
def gTag (i j : Nat) (c : Str) : D → SvF := fun z e d => e[i]? = some none ∧ ∃ e2, asg e j (.im (.tup [.str c, z])) = some e2 ∧ d.nx e2
theorem asg_im {e e2 : En} {j : Nat} {z : D} (h : asg e j (.im z) = some e2) : e2 = e.set j (some (.imm z)) := by
  unfold asg at h
  split at h
  · cases h
  · cases h; rfl
section
variable {X : Cx} {F : Fr} {C : Addr} {i j : Nat} {n y : Str} {p1 p2 p3 p4 p5 p6 : Pos} {k6 k7 : Nat}
theorem su_val (xf : XfC X.K C) (no : PySem.W.findIn X.K (.ref C) "value" = some none) (hNd : X.N.Nodup) (hi : X.N[i]? = some n) (hj : X.N[j]? = some y) (hvi : Vis X.env.scope n) (hlj : Loc X.env.scope y) (hij : i ≠ j)
    (hb : attributeBase (.Name n p1) "value" X.env (eval (.Name n p1) X.env) = eval (.Name n p1) X.env := by rfl) (hs : swapsWith (.Attribute (.Name n p1) "value" p3) (some (.Name y p2)) p4.line X.env = pure false := by rfl)
    (hf : X.fn y = true ∨ X.env.scope.names.lookup y = some .local := by first | exact .inl rfl | exact .inr rfl) (hd : (n == ("__debug__" : Str)) = false := by decide) (hcd : (n == ("__classdict__" : Str)) = false := by decide) :
    SuD X F C i [.Assign [.Name y p2] (.Attribute (.Name n p1) "value" p3) p4] (gVal i j) := by
  refine ⟨fun a cls d => tAsg (tXf a cls d C "value" (tVar i)) (gName j), fun a oe cls d pn hz hfl => pss_one (ps_set (X := X.suite a ((a, oe) :: pn)) (i := j) hNd hj hlj (pe_xf xf no hz hfl (pe_var hi hvi hd hcd) hb) hs hf), fun σ I H e ps dd a x z d D hp s rx hx hg k => ?_⟩
  obtain ⟨hn, e2, ha, hd2⟩ := hg
  have hil := (List.getElem?_eq_some_iff.mp hn).1
  rw [s.len] at hil
  have e2e := asg_im ha
  have hn2 : e2[i]? = some none := by rw [e2e, List.getElem?_set_ne (Ne.symm hij)]; exact hn
  refine ⟨.ref a, List.getElem?_set_self hil, rfl, rfl, dd, _, x, rfl, hx, rfl, ?_⟩
  have s1 := s.junk (o := some (.ref a)) hp hn
  obtain ⟨I2, s2⟩ := (s1.pushI rx).asg (hp.no _) ha
  exact k.nx _ I2 H e2 hd2 (s2.junk hp hn2)
theorem su_tag {c : Str} (xf : XfC X.K C) (no : PySem.W.findIn X.K (.ref C) "value" = some none) (hNd : X.N.Nodup) (hi : X.N[i]? = some n) (hj : X.N[j]? = some y) (hvi : Vis X.env.scope n) (hlj : Loc X.env.scope y) (hij : i ≠ j)
    (hb : attributeBase (.Name n p1) "value" X.env (eval (.Name n p1) X.env) = eval (.Name n p1) X.env := by rfl) (hs : swapsWith (.Tuple [.Constant (.str c) k6 p6, .Attribute (.Name n p1) "value" p3] k7 p5) (some (.Name y p2)) p4.line X.env = pure false := by rfl)
    (hf : X.fn y = true ∨ X.env.scope.names.lookup y = some .local := by first | exact .inl rfl | exact .inr rfl) (hd : (n == ("__debug__" : Str)) = false := by decide) (hcd : (n == ("__classdict__" : Str)) = false := by decide) :
    SuD X F C i [.Assign [.Name y p2] (.Tuple [.Constant (.str c) k6 p6, .Attribute (.Name n p1) "value" p3] k7 p5) p4] (gTag i j c) := by
  refine ⟨fun a cls d => tAsg (tTup (tCons (tC (.str c)) (tCons (tXf a cls d C "value" (tVar i)) tNil))) (gName j), fun a oe cls d pn hz hfl => pss_one (ps_set (X := X.suite a ((a, oe) :: pn)) (i := j) hNd hj hlj (pe_tup (pa_cons pe_str (pa_cons (pe_xf xf no hz hfl (pe_var hi hvi hd hcd) hb) pa_nil))) hs hf), fun σ I H e ps dd a x z d D hp s rx hx hg k => ?_⟩
  obtain ⟨hn, e2, ha, hd2⟩ := hg
  have hil := (List.getElem?_eq_some_iff.mp hn).1
  rw [s.len] at hil
  have e2e := asg_im ha
  have hn2 : e2[i]? = some none := by rw [e2e, List.getElem?_set_ne (Ne.symm hij)]; exact hn
  refine ⟨.ref a, List.getElem?_set_self hil, rfl, rfl, dd, _, x, rfl, hx, rfl, ?_⟩
  refine ⟨Nat.le_of_ble_eq_true rfl, fun q hq => ?_⟩
  have s1 := s.junk (o := some (.ref a)) hp hn
  have g := Grow.allocI (o := .tup [.str c, x]) s1.sub hq
  have s3 := s1.pushG (x := .ref q) (t := .imm (.tup [.str c, z])) g (.tup upd_same (.cons (.str _) (.cons (rx.mono g.le) .nil))) fun b hb => by simp at hb
  obtain ⟨I2, s2⟩ := s3.asg (hp.no _) ha
  exact k.nx _ I2 _ e2 hd2 (s2.junk hp hn2)
end
section
variable {e : En} {d : Ed} {z : D} {i j : Nat} {c : Str}
theorem s_try {C : Addr} {f : Fr → SvF} {g : D → SvF} (k : ∀ F' : Fr, F'.PX = (fun C' z e' => C' = C ∧ g z e' d) → f F' e d) : sTry C f g e d := k
theorem x_pxT {F' : Fr} {P : Addr → D → En → Prop} {C : Addr} {z : D} (hF : F'.PX = P) (k : P C z e) : F'.PX C z e := by rw [hF]; exact k
theorem x_got {C C' : Addr} {R : Prop} (h : C' = C) (k : R) : C' = C ∧ R := ⟨h, k⟩
theorem s_gVal (hn : e[i]? = some none) (k : ∃ e2, asg e j (.im z) = some e2 ∧ d.nx e2) : gVal i j z e d := ⟨hn, k⟩
theorem s_gTag (hn : e[i]? = some none) (k : ∃ e2, asg e j (.im (.tup [.str c, z])) = some e2 ∧ d.nx e2) : gTag i j c z e d := ⟨hn, k⟩
end
/-! ### + of own objects -/
section
variable {X : Cx} {F : Fr} {CX : CXT} {k : Nat} {C g : Addr} {fd : FuncData} {pn : List Str} {sp : Sp} {con : Con} {a b : Expr} {f1 f2 : EvF} {pos : Pos} {ta tb : TE} {E : L2.St → XK}
theorem pe_addOwn (G : FnOk X.prog X.w X.K X.mg X.base CX k g fd pn sp) (hr : Room k X.A) (hm : Meth X.K C "__add__" g) (hc : PySem.W.selfFirst X.K C = true) (hb : Binds X.K fd pn []) (hx : ∀ σ, PassesAt CX X σ (E σ)) (ha : PE X a ta) (hb' : PE X b tb) :
    PE X (.BinOp a .Add b pos) (fun σ H Q => ta σ H fun x H1 => tb σ H1 fun y H2 => rOwn2 C sp (E σ) x y H2 Q) := by
  refine ⟨fun pins s σ H Q I h => ?_⟩
  refine wpAny_BinOp (binT ha hb' I (R := fun x y H2 => rOwn2 C sp (E σ) x y H2 Q) h fun v u s2 x y H2 I2 rx ry q => ?_)
  obtain ⟨a', b', dx, dy, fs, gs, rfl, rfl, ea, eb, h⟩ := q
  obtain rfl : v = Value.ref a' := rx
  obtain rfl : u = Value.ref b' := ry
  obtain ⟨_, O, _⟩ := ins_get I2.hok ea
  obtain ⟨_, O', _⟩ := ins_get I2.hok eb
  obtain ⟨_, J, _⟩ := O.look
  obtain ⟨_, J', _⟩ := O'.look
  obtain ⟨_, fr⟩ := I2.fr
  refine PySem.W.binop_K (op := .Add) fr I2.ok.mod.kin J J'.type hc hm.at_ hm.fn ?_
  exact wpAny_mono (run_fnS G hr hb (hx σ) I2 (.cons (show RelV (.ref a') (.ref a') from rfl) (.cons (show RelV (.ref b') (.ref b') from rfl) .nil)) h) (fun _ _ q => back_of q) fun _ _ z => z
theorem DT.addO (d1 : DT F ta f1) (d2 : DT F tb f2) (fo : FrOk F) : DT F (fun σ H Q => ta σ H fun x H1 => tb σ H1 fun y H2 => rOwn2 C (spD F.K con) (WE F.W σ) x y H2 Q) (eOwn2 F.PX C con f1 f2) := fun σ I H e ps P Q s h k' => by
  refine d1 σ I H e ps _ _ s h fun x r1 e1 I1 H1 h1 s1 => ?_
  refine d2 σ I1 H1 e1 _ _ _ s1 h1 fun y r2 e2 I2 H2 h2 s2 => ?_
  obtain ⟨fs, gs, e3, e4, hf, hg, hc⟩ := h2
  rw [List.append_assoc] at s2
  obtain ⟨I3, _, s3⟩ := s2.frz hf
  have s3' : ST F σ I3 H2 e3 ((ps ++ [(x, .im (.obj C fs))]) ++ [(y, r2)]) := by rw [List.append_assoc]; exact s3
  obtain ⟨I4, _, s4⟩ := s3'.frz hg
  have ry : Rep F.K I4 y (.obj C gs) := ST.temp (ps := ps ++ [(x, .im (.obj C fs))]) (qs := []) (t := .imm (.obj C gs)) s4
  have rx : Rep F.K I4 x (.obj C fs) := ST.temp (ps := ps) (qs := []) (t := .imm (.obj C fs)) s4.weak
  cases rx with
  | @obj a _ dx fs' _ hx m1 r1 =>
    cases ry with
    | @obj b _ dy gs' _ hy m2 r2 =>
      refine ⟨a, b, dx, dy, fs', gs', rfl, rfl, s4.sub _ _ hx, s4.sub _ _ hy, ?_⟩
      refine ST.called (I := I4) (ps := ps) (as := [.v (.obj C fs), .v (.obj C gs)]) ?_ rfl fo hc k'
      rw [List.append_assoc] at s4
      exact s4
theorem de_addO (h1 : DE X F a f1) (h2 : DE X F b f2) (G : FnOk X.prog X.w X.K X.mg X.base (L2.CX X.prog X.w) k g fd pn (spD X.K con)) (hr : Room k X.A) (hm : Meth X.K C "__add__" g) (hc : PySem.W.selfFirst X.K C = true) (hb : Binds X.K fd pn []) (tk : Takes X F.W) (fo : FrOk F)
    (hK : F.K = X.K := by first | rfl | assumption) : DE X F (.BinOp a .Add b pos) (eOwn2 F.PX C con f1 f2) := by
  obtain ⟨t1, p1, d1⟩ := h1
  obtain ⟨t2, p2, d2⟩ := h2
  refine ⟨_, pe_addOwn G hr hm hc hb (fun σ => passAt tk σ) p1 p2, ?_⟩
  have z := DT.addO (C := C) (con := con) d1 d2 fo
  rw [hK] at z
  exact z
end
section
variable {i j : Int} {P : Ent → Prop} {xs : List D}
theorem o_slT {lo hi : Option Int} (k : P (.imm (.tup (cutL xs lo hi)))) : oSl (.tup xs) lo hi P := k
theorem o_neP {a b c d : Int} (k : P (.imm (.bl (!decide (a = c ∧ b = d))))) : oNe (.tup [.int a, .int b]) (.tup [.int c, .int d]) P := by
  refine ⟨by show okD 40 _ = true; simp [toPy, toPys, okD, okDs], by show okD 40 _ = true; simp [toPy, toPys, okD, okDs], ?_⟩
  have e : eqD (.tup [.int a, .int b]) (.tup [.int c, .int d]) = decide (a = c ∧ b = d) := by
    unfold eqD
    simp only [toPy, toPys, PyData.eqv, PyData.eqvAll, Bool.and_true]
    by_cases h1 : a = c <;> by_cases h2 : b = d <;> simp [h1, h2]
  rw [e]
  exact k
/-- a mirror's place, told by its first two cells -/
theorem o_neC {a b c d : Int} {z : D} (k : P (.imm (.bl (!decide (a = c ∧ b = d))))) : oNe (.tup (cutL [.int a, .int b, z] none (some 2))) (.tup [.int c, .int d]) P := by
  have e : cutL [D.int a, .int b, z] none (some 2) = [.int a, .int b] := rfl
  rw [e]
  exact o_neP k
end
theorem s_dnT {e : En} {P : Rv → En → Prop} (k : ∀ a, P (.ent (.own a (.dic []))) e) : eDnT e P := k
theorem s_dnK {e : En} {P : Rv → En → Prop} (k : ∀ a, P (.ent (.own a (.dik []))) e) : eDnK e P := k
/-! ### name += own object, by __add__ -/
/-- the class has no other base than object -/
def mroObj (K : PySem.W.Frag) (C : Addr) : Bool := (PySem.W.clsIn K C).any fun cd => cd.mro == [.ref C, .type "object"]
section
open PySem.W
variable {prog : Program} {w : World} {A : Around} {E : Value → Shared → Prop} {s : Shared} {K : Frag} {x C L f : Addr} {h₀ : Heap} {m : Str → Option Value} {ox : Obj} {od : Option Obj}
theorem noInpl {M : Model} {h : Heap} {nm : String} {add : Bool} (X : K.In h) (hc : mroObj K C = true) (hs : findIn K (.ref C) (dunderI nm) = some none) (ho : typeLookup (.type "object") (dunderI nm) = pure none) : Looks M h (fillsInplaceSlot (.ref C) nm add) false := by
  intro A Q E s k q
  obtain ⟨cd, hcd, hm⟩ := any_some hc
  have hm : cd.mro = [.ref C, .type "object"] := beq_iff_eq.mp hm
  unfold fillsInplaceSlot
  refine wpAny_bind ((looks_clsIn X hcd).andThen (f := fun cd => pure cd.mro) .now A _ E s k ?_)
  rw [hm, List.anyM_cons]
  refine wpAny_bind (wpAny_bind (looks_findIn X hs A _ E s k ?_))
  refine wpAny_pure ?_
  rw [List.anyM_cons, ho]
  refine wpAny_bind (wpAny_bind (wpAny_pure ?_))
  refine wpAny_pure ?_
  exact wpAny_pure q
theorem inplace_K {op : Operator} {b : Value} {Q : Value → Shared → Prop} (F : PyProof.Rows.Fr h₀ L s.heap m) (X₀ : K.In h₀) (I : InstAt s.heap x ox C od) (hb : Looks (model prog w) s.heap (typeOf b) (.ref C)) (hc : selfFirst K C = true)
    (hs : findIn K (.ref C) (PySem.dunder op.info.2) = some (some (.ref f))) (hf : isFn K (.ref f) = true) (hc2 : mroObj K C = true) (hi : findIn K (.ref C) (dunderI op.info.2) = some none) (ho : typeLookup (.type "object") (dunderI op.info.2) = pure none)
    (h : wpAny (model prog w) A (call (.ref f) [.ref x, b]) (PySem.W.CmpBack Q) E s) : wpAny (model prog w) A (inplaceOp op (.ref x) b) Q E s := by
  have X := X₀.keeps F.keep
  obtain ⟨cd, hcd, hm⟩ := any_some hc
  obtain ⟨rest, hm⟩ : ∃ rest, cd.mro = .ref C :: rest := by
    cases q : cd.mro with
    | nil => rw [q] at hm; cases hm
    | cons a r => rw [q] at hm; exact ⟨r, by rw [List.head?_cons] at hm; cases (beq_iff_eq.mp hm); rfl⟩
  unfold inplaceOp
  refine wpAny_holding (wpAny_bind (I.type.here (wpAny_bind ((noInpl X hc2 hi ho).here ?_))))
  simp only [Bool.false_eq_true, if_false]
  refine wpAny_bind ?_
  unfold binaryOp1
  refine wpAny_bind (I.type.here (wpAny_bind (hb.here (wpAny_bind ((fills_K X hcd hm hs).here ?_)))))
  simp only [beq_self_eq_true, if_true]
  refine wpAny_bind (wpAny_pure ?_)
  simp only [Bool.and_false, Bool.false_eq_true, if_false, Bool.false_and]
  refine wpAny_bind (wpAny_pure ?_)
  simp only [Bool.false_eq_true, if_false]
  refine wpAny_bind (m := tryMethod (.ref x) _ b) ?_
  unfold tryMethod
  refine wpAny_bind (special_fn X I hs (beq_iff_eq.mp hf) (wpAny_mono h (fun v s' hv => ?_) fun _ _ e => e))
  cases v <;> first | exact hv.elim | exact wpAny_pure (wpAny_pure (wpAny_pure hv))
end
section
variable {X : Cx} {F : Fr} {CX : CXT} {k i : Nat} {C g : Addr} {fd : FuncData} {pn : List Str} {sp : Sp} {con : Con} {b : Expr} {f2 : EvF} {pos pos' : Pos} {tb : TE} {E : L2.St → XK} {x : Str}
theorem ps_augOwn (G : FnOk X.prog X.w X.K X.mg X.base CX k g fd pn sp) (hr : Room k X.A) (hm : Meth X.K C "__add__" g) (hc : PySem.W.selfFirst X.K C = true) (hc2 : mroObj X.K C = true) (hno : PySem.W.findIn X.K (.ref C) "__iadd__" = some none) (hb : Binds X.K fd pn []) (hx : ∀ σ, PassesAt CX X σ (E σ))
    (hN : X.N.Nodup) (hi : X.N[i]? = some x) (hl : Loc X.env.scope x) (hb' : PE X b tb) (ho : typeLookup (.type "object") "__iadd__" = pure none := by rfl) (hf : X.fn x = true ∨ X.env.scope.names.lookup x = some .local := by first | exact .inl rfl | exact .inr rfl | assumption) :
    PS X (.AugAssign (.Name x pos') .Add b pos) (fun D σ H => tVar i σ H fun x H1 => tb σ H1 fun y H2 => rOwn2 C sp (E σ) x y H2 fun z H3 => D.nx (σ.set i (some z)) H3) := by
  refine ⟨fun pins s σ H D I h => ?_⟩
  obtain ⟨v, e1, h⟩ := h
  obtain ⟨m, hn, hl'⟩ := I.loc
  have vis : Vis X.env.scope x := by rcases hl with k | k; exact .inl k; exact .inr (.inl k)
  obtain ⟨u, r, l⟩ := hl' i x v hi e1 vis
  refine wpAny_AugAssign_Name ?_
  have go : wpAny (model X.prog X.w) X.A (eval b X.env) (fun w s₂ => wpAny (model X.prog X.w) X.A (inplaceOp .Add u w) (fun r s₃ => wpAny (model X.prog X.w) X.A (storeName X.env x r) (fun _ => SP X pins D .next) X.xe s₃) X.xe s₂) X.xe s := by
    refine thn (hb'.run pins s σ H _ I h) fun w s1 ⟨y, H1, I1, r1, q1⟩ => ?_
    have op : wpAny (model X.prog X.w) X.A (inplaceOp .Add u w) (EP X pins σ fun z H3 => D.nx (σ.set i (some z)) H3) X.xe s1 := by
      obtain ⟨a', b', dx, dy, fs, gs, rfl, rfl, ea, eb, h⟩ := q1
      obtain rfl : u = Value.ref a' := r
      obtain rfl : w = Value.ref b' := r1
      obtain ⟨_, O, _⟩ := ins_get I1.hok ea
      obtain ⟨_, O', _⟩ := ins_get I1.hok eb
      obtain ⟨_, J, _⟩ := O.look
      obtain ⟨_, J', _⟩ := O'.look
      obtain ⟨_, fr⟩ := I1.fr
      refine inplace_K (op := .Add) fr I1.ok.mod.kin J J'.type hc hm.at_ hm.fn hc2 hno ho ?_
      exact wpAny_mono (run_fnS G hr hb (hx σ) I1 (.cons (show RelV (.ref a') (.ref a') from rfl) (.cons (show RelV (.ref b') (.ref b') from rfl) .nil)) h) (fun _ _ q => back_of q) fun _ _ z => z
    refine thn op fun z s2 ⟨zv, H2, I2, r2, q2⟩ => ?_
    exact store_ok I2 hN hi hl r2 (fun s3 I3 => ⟨_, H2, I3, q2⟩) hf
  rcases l with ⟨hk, hm⟩ | ⟨hk, c, hc, hcell⟩
  · exact wpAny_loadName_local I.ok.kind hk hn hm go
  · rcases hk with hk | hk
    · exact wpAny_loadName_cell I.ok.kind hk hc hcell go
    · rcases hl with k | k
      · have : X.env.scope.names.lookup x = some .free := hk
        rw [k] at this; cases this
      · have : X.env.scope.names.lookup x = some .free := hk
        rw [k] at this; cases this
theorem DT.var : DT F (tVar i) (eVar i) := fun σ I H e ps P Q s h k => by
  rcases h with ⟨d, q, h⟩ | ⟨t, q, h⟩
  · obtain ⟨y, e1, e2⟩ := s.slot q
    exact ⟨y, e1, k y _ e I H h (s.pushI e2)⟩
  · obtain ⟨y, e1, e2⟩ := s.slot q
    exact ⟨y, e1, k y _ e I H h (s.pushS e1 q)⟩
theorem ds_augO (h2 : DE X F b f2) (G : FnOk X.prog X.w X.K X.mg X.base (L2.CX X.prog X.w) k g fd pn (spD X.K con)) (hr : Room k X.A) (hm : Meth X.K C "__add__" g) (hc : PySem.W.selfFirst X.K C = true) (hc2 : mroObj X.K C = true) (hno : PySem.W.findIn X.K (.ref C) "__iadd__" = some none) (hb : Binds X.K fd pn []) (tk : Takes X F.W) (fo : FrOk F)
    (hN : X.N.Nodup) (hi : X.N[i]? = some x) (hl : Loc X.env.scope x) (hK : F.K = X.K := by first | rfl | assumption) (ho : typeLookup (.type "object") "__iadd__" = pure none := by rfl) (hf : X.fn x = true ∨ X.env.scope.names.lookup x = some .local := by first | exact .inl rfl | exact .inr rfl | assumption) :
    DS X F (.AugAssign (.Name x pos') .Add b pos) (sSet i (eOwn2 F.PX C con (eVar i) f2)) := by
  obtain ⟨t2, p2, d2⟩ := h2
  refine ⟨_, ps_augOwn G hr hm hc hc2 hno hb (fun σ => passAt tk σ) hN hi hl p2 ho hf, fun σ I H e ps d D hp s h k => ?_⟩
  have z := DT.addO (C := C) (con := con) (DT.var (F := F) (i := i)) d2 fo
  rw [hK] at z
  refine z σ I H e ps _ _ s h fun x r e1 I1 H1 h1 s1 => ?_
  obtain ⟨e2, ha, h2⟩ := h1
  obtain ⟨I2, s2⟩ := s1.asg (hp.no _) ha
  exact k.nx _ I2 H1 e2 h2 s2
end
/-! ### calls by name -/
def pmL {α : Type} (ix : List Nat) (l : List α) : List α := ix.filterMap fun i => l[i]?
theorem vals_pm {zs : List V} {ws : List Value} (r : Vals zs ws) : ∀ ix : List Nat, Vals (pmL ix zs) (pmL ix ws)
  | [] => .nil
  | i :: ix => by
    unfold pmL
    have hl := r.length
    cases h : zs[i]? with
    | none =>
      have h2 : ws[i]? = none := by
        rw [List.getElem?_eq_none_iff] at h ⊢
        omega
      rw [List.filterMap_cons_none h, List.filterMap_cons_none h2]
      exact vals_pm r ix
    | some z =>
      obtain ⟨w, h2, rz⟩ := Vals.get r h
      rw [List.filterMap_cons_some h, List.filterMap_cons_some h2]
      exact .cons rz (vals_pm r ix)
theorem reps_pm {K : PySem.W.Frag} {I : Hp} {xs : List V} {ds : List D} (r : Reps K I xs ds) : ∀ ix : List Nat, Reps K I (pmL ix xs) (pmL ix ds)
  | [] => .nil
  | i :: ix => by
    unfold pmL
    have hl := r.len
    cases h : ds[i]? with
    | none =>
      have h2 : xs[i]? = none := by
        rw [List.getElem?_eq_none_iff] at h ⊢
        omega
      rw [List.filterMap_cons_none h, List.filterMap_cons_none h2]
      exact reps_pm r ix
    | some z =>
      obtain ⟨w, h2, rz⟩ := r.get h
      rw [List.filterMap_cons_some h, List.filterMap_cons_some h2]
      exact .cons rz (reps_pm r ix)
/-- how a call by name binds: n values ahead, the others by the names ks -/
def KwB (K : PySem.W.Frag) (fd : FuncData) (pn : List Str) (n : Nat) (ks : List Str) (ix : List Nat) : Prop :=
  ∀ (s : Shared) (us ws : List Value), K.In s.heap → us.length = n → ws.length = ks.length → BindsTo s fd ⟨us, ks.zip ws⟩ (pn.zip (us ++ pmL ix ws))
structure DK (X : Cx) (F : Fr) (kws : List Keyword) (f : EvA) : Prop where
  ex : ∃ t, PK X kws t ∧ DTA F t f
section
variable {X : Cx} {F : Fr} {nm : Option Str} {ex : Expr} {kpos : Pos} {kws : List Keyword} {f : EvF} {g : EvA}
theorem dk_nil : DK X F [] aNil := ⟨_, pk_nil, fun σ I H e ps P Q s h k => k [] [] e I H h rfl (by simpa using s)⟩
theorem dk_cons (h1 : DE X F ex f) (h2 : DK X F kws g) : DK X F (⟨nm, ex, kpos⟩ :: kws) (aCons f g) := by
  obtain ⟨t1, p1, d1⟩ := h1
  obtain ⟨t2, p2, d2⟩ := h2
  refine ⟨_, pk_cons p1 p2, fun σ I H e ps P Q s h k => ?_⟩
  refine d1 σ I H e ps _ _ s h fun x r e1 I1 H1 h1 s1 => ?_
  refine d2 σ I1 H1 e1 _ _ _ s1 h1 fun xs rs e2 I2 H2 h2 hl s2 => ?_
  refine k (x :: xs) (r :: rs) e2 I2 H2 h2 (by simp [hl]) ?_
  rw [List.zip_cons_cons]
  rw [List.append_assoc] at s2
  exact s2
end
theorem ST.pushReps {F : Fr} {σ : L2.St} {I H : Hp} {e : En} : ∀ {xs : List V} {ds : List D} {ps : Tm}, ST F σ I H e ps → Reps F.K I xs ds → ST F σ I H e (ps ++ xs.zip ((ds.map Ag.v).map Ag.rv))
  | _, _, ps, s, .nil => by simpa using s
  | x :: xs, d :: ds, ps, s, .cons r rr => by
    have z := ST.pushReps (s.pushI r) rr
    rw [List.append_assoc] at z
    exact z
def eMethK (PX : Addr → D → En → Prop) (C : Addr) (m : Str) (con : Con) (ix : List Nat) (nk : Nat) (f : EvF) (g : EvA) : EvF := fun e P => f e fun r e1 => ∃ fs e2, frz e1 r = some (.obj C fs, e2) ∧ fs.lookup m = none ∧ g e2 fun rs e3 => ∃ ds e4, frzs e3 rs = some (ds, e4) ∧ ds.length = nk ∧ callD PX con ((D.obj C fs :: pmL ix ds).map Ag.v) e4 P
def eMakeK (PX : Addr → D → En → Prop) (con : Con) (ix : List Nat) (nk : Nat) (g : EvA) : EvF := fun e P => g e fun rs e1 => ∃ ds e2, frzs e1 rs = some (ds, e2) ∧ ds.length = nk ∧ callD PX con ((pmL ix ds).map Ag.v) e2 P
section
variable {X : Cx} {F : Fr} {CX : CXT} {k : Nat} {f C : Addr} {fd : FuncData} {pn ks : List Str} {ix : List Nat} {con : Con} {sp : Sp} {x m : Str} {p apos pos : Pos} {o : Expr} {kws : List Keyword} {g : EvA} {fo' : EvF} {ta : TE} {tk : TA} {E : L2.St → XK}
theorem pe_methEK {pl : Sem Bool} (he : PE X o ta) (c : Cls X.K C) (hm : Meth X.K C m f) (G : FnOk X.prog X.w X.K X.mg X.base CX k f fd pn sp) (hr : Room k X.A) (hb : KwB X.K fd pn 1 ks ix) (hx : ∀ σ, PassesAt CX X σ (E σ)) (hkw : PK X kws tk)
    (hall : (backToKw pos (keywordEach kws X.env)).all (·.1.isSome) = true := by rfl) (hks : (backToKw pos (keywordEach kws X.env)).filterMap (·.1) = ks := by rfl)
    (hpl : ((backTo pos (starEach [] X.env)).any (·.1) || (backToKw pos (keywordEach kws X.env)).any (·.1.isNone)) = false := by rfl)
    (ht : eval (.Call (.Attribute o m apos) [] kws pos) X.env = (do
      let ov ← eval o X.env; standAt apos.atName; let (f, first) ← holding [ov] (getMethod ov m pl)
      callWith pos f first (backTo pos (starEach [] X.env)) (backToKw pos (keywordEach kws X.env))) := by rfl) :
    PE X (.Call (.Attribute o m apos) [] kws pos) (fun σ H Q => ta σ H fun x H1 => ∃ a dx fs, x = .ref a ∧ H1 a = some (.ins C dx fs) ∧ fs.lookup m = none ∧ tk σ H1 fun zs H2 => zs.length = ks.length ∧ sp (.ref a :: pmL ix zs) H2 Q (E σ)) := by
  constructor
  intro pins s σ H Q I h
  apply PySem.W.methodCall_KW (pl := pl) (thn (he.run pins s σ H _ I h) ?_) ht
  rintro u s1 ⟨x, H1, I1, rx, a, dx, fs, rfl, ea, l, q⟩
  cases rx
  apply getmeth_ok I1 ea c hm l
  refine PySem.W.callWith_KW0 (first := [.ref a]) (h₀ := X.base) I.ok.mod.kin hm.kp hall (thn (hkw.run pos pins s1 σ H1 _ I1 q) fun ws s2 ⟨zs, H2, I2, rz, l2, q2⟩ => ⟨I2.kIn, ?_⟩) hpl
  rw [hks]
  have r2 : Vals (V.ref a :: pmL ix zs) (Value.ref a :: pmL ix ws) := .cons (show RelV (.ref a) (.ref a) from rfl) (vals_pm rz ix)
  refine wpAny_call (codeAny_mono (G.run X.A X.stack s2 H2 ⟨[.ref a], ks.zip ws⟩ (.ref a :: pmL ix ws) (.ref a :: pmL ix zs) Q (E σ) hr I2.env0 (hb s2 [.ref a] ws I2.kIn rfl (rz.length.symm.trans l2)) r2 q2) fun r s' hq => ?_)
  cases r with
  | error e => exact hx σ pins _ _ e s' I2 hq
  | ok fl =>
    cases fl with
    | ret u => exact I2.after hq
    | next => exact False.elim hq
    | brk => exact False.elim hq
    | cont => exact False.elim hq
theorem de_methK {pl : Sem Bool} (ho : DE X F o fo') (c : Cls X.K C) (hm : Meth X.K C m f) (G : FnOk X.prog X.w X.K X.mg X.base (L2.CX X.prog X.w) k f fd pn (spD X.K con)) (hr : Room k X.A) (hb : KwB X.K fd pn 1 ks ix) (tk : Takes X F.W) (fo : FrOk F) (hkw : DK X F kws g) (hK : F.K = X.K := by first | rfl | assumption)
    (hall : (backToKw pos (keywordEach kws X.env)).all (·.1.isSome) = true := by rfl) (hks : (backToKw pos (keywordEach kws X.env)).filterMap (·.1) = ks := by rfl)
    (hpl : ((backTo pos (starEach [] X.env)).any (·.1) || (backToKw pos (keywordEach kws X.env)).any (·.1.isNone)) = false := by rfl)
    (ht : eval (.Call (.Attribute o m apos) [] kws pos) X.env = (do
      let ov ← eval o X.env; standAt apos.atName; let (f, first) ← holding [ov] (getMethod ov m pl)
      callWith pos f first (backTo pos (starEach [] X.env)) (backToKw pos (keywordEach kws X.env))) := by rfl) :
    DE X F (.Call (.Attribute o m apos) [] kws pos) (eMethK F.PX C m con ix ks.length fo' g) := by
  obtain ⟨t0, p0, d0⟩ := ho
  obtain ⟨t, pk, dk⟩ := hkw
  refine ⟨_, pe_methEK (pl := pl) p0 c hm G hr hb (fun σ => passAt tk σ) pk hall hks hpl ht, fun σ I H e ps P Q s h k => ?_⟩
  refine d0 σ I H e ps _ _ s h fun x r e1 I1 H1 h1 s1 => ?_
  obtain ⟨fs, e2, hf, hn, h2⟩ := h1
  obtain ⟨I2, _, s2⟩ := s1.frz hf
  have rx : Rep F.K I2 x (.obj C fs) := ST.temp (qs := []) (t := .imm (.obj C fs)) s2
  cases rx with
  | @obj a _ dx gs _ hx mm rr =>
    refine ⟨a, dx, gs, rfl, s2.sub _ _ hx, fs_none mm hn, ?_⟩
    refine dk σ I2 H1 e2 _ _ _ s2 h2 fun zs rs e3 I3 H3 h3 hl s3 => ?_
    obtain ⟨ds, e4, hfz, hlen, hc⟩ := h3
    obtain ⟨I4, l4, s4, r4⟩ := s3.frzs hl hfz
    refine ⟨by rw [r4.len]; exact hlen, ?_⟩
    rw [← hK]
    have rx4 : Rep F.K I4 (.ref a) (.obj C fs) := ST.temp (qs := []) (t := .imm (.obj C fs)) s4
    have rp : Reps F.K I4 (.ref a :: pmL ix zs) (.obj C fs :: pmL ix ds) := .cons rx4 (reps_pm r4 ix)
    exact ST.called (s4.weak.pushReps rp) (by rw [List.length_map]; exact rp.len) fo hc k
theorem pe_makeEK (M : Mk X.K C f) (G : FnOk X.prog X.w X.K X.mg X.base CX k f fd pn sp) (hr : Room (k + 1) X.A) (hg : Gl X x) (hm : X.mg x = some (.ref C)) (hb : KwB X.K fd pn 1 ks ix) (hx : ∀ σ, PassesAt CX X σ (E σ)) (hkw : PK X kws tk)
    (hall : (backToKw pos (keywordEach kws X.env)).all (·.1.isSome) = true := by rfl) (hks : (backToKw pos (keywordEach kws X.env)).filterMap (·.1) = ks := by rfl) (hdb : (x == ("__debug__" : Str)) = false := by decide)
    (hpl : ((backTo pos (starEach [] X.env)).any (·.1) || (backToKw pos (keywordEach kws X.env)).any (·.1.isNone)) = false := by rfl) :
    PE X (.Call (.Name x p) [] kws pos) (fun σ H Q => tk σ H fun zs H1 => zs.length = ks.length ∧ ∀ q dx, H1 q = none → H1 dx = none → dx ≠ q → sp (.ref q :: pmL ix zs) (upd (upd H1 dx (.own q)) q (.ins C dx [])) (fun v H2 => v = .non ∧ Q (.ref q) H2) (E σ)) := by
  constructor
  intro pins s σ H Q I h
  refine wpAny_Call_Name_kw (ld_glob I hg hm ?_ hdb)
  refine PySem.W.callWith_KW0 (h₀ := X.base) I.ok.mod.kin M.kp hall ?_ hpl
  refine thn (hkw.run pos pins s σ H _ I h) fun ws s1 ⟨zs, H1, I1, rz, l2, q⟩ => ⟨I1.kIn, ?_⟩
  rw [hks]
  have hq := q (s1.heap.objs.size + 1) s1.heap.objs.size (I1.hok.fresh (Nat.le_succ _)) (I1.hok.fresh (Nat.le_refl _)) (Nat.ne_of_lt (Nat.lt_succ_self _))
  have I2 := Inv.made (C := C) I1
  have r2 : Vals (V.ref (s1.heap.objs.size + 1) :: pmL ix zs) (Value.ref (s1.heap.objs.size + 1) :: pmL ix ws) := .cons (show RelV (.ref _) (.ref _) from rfl) (vals_pm rz ix)
  have b := hb _ [Value.ref (s1.heap.objs.size + 1)] ws I2.kIn rfl (rz.length.symm.trans l2)
  apply wpAny_call
  apply make_map (f := f) I1.kIn M.makes M.init (beq_iff_eq.mp M.fn)
  apply codeAny_mono (G.run _ X.stack _ _ ⟨[Value.ref (s1.heap.objs.size + 1)], ks.zip ws⟩ _ _ _ (E σ) (hr.make C [] (ks.zip ws)) (I2.env0.make C [] (ks.zip ws)) b r2 hq)
  intro r s' hq'
  match r, hq' with
  | .error e, hq' => exact hx σ pins _ _ e s' I2 hq'
  | .ok (.ret u), hq' =>
    obtain ⟨v, H', I3, rv, ev, q3⟩ := I2.after hq'
    subst ev
    exact ⟨rv, ⟨V.ref (s1.heap.objs.size + 1), H', I3, rfl, q3⟩⟩
theorem de_makeK (M : Mk X.K C f) (G : FnOk X.prog X.w X.K X.mg X.base (L2.CX X.prog X.w) k f fd pn sp) (hM : MkD X.K C sp con) (hr : Room (k + 1) X.A) (hg : Gl X x) (hm : X.mg x = some (.ref C)) (hb : KwB X.K fd pn 1 ks ix) (tk : Takes X F.W) (fo : FrOk F) (hkw : DK X F kws g)
    (hK : F.K = X.K := by first | rfl | assumption) (hall : (backToKw pos (keywordEach kws X.env)).all (·.1.isSome) = true := by rfl) (hks : (backToKw pos (keywordEach kws X.env)).filterMap (·.1) = ks := by rfl) (hdb : (x == ("__debug__" : Str)) = false := by decide)
    (hpl : ((backTo pos (starEach [] X.env)).any (·.1) || (backToKw pos (keywordEach kws X.env)).any (·.1.isNone)) = false := by rfl) :
    DE X F (.Call (.Name x p) [] kws pos) (eMakeK F.PX con ix ks.length g) := by
  obtain ⟨t, pk, dk⟩ := hkw
  refine ⟨_, pe_makeEK M G hr hg hm hb (fun σ => passAt tk σ) pk hall hks hdb hpl, fun σ I H e ps P Q s h k => ?_⟩
  refine dk σ I H e ps _ _ s h fun zs rs e1 I1 H1 h1 hl s1 => ?_
  obtain ⟨ds, e2, hfz, hlen, hc⟩ := h1
  obtain ⟨I2, l2, s2, r2⟩ := s1.frzs hl hfz
  refine ⟨by rw [r2.len]; exact hlen, ?_⟩
  have rp := reps_pm r2 ix
  have z := ST.called (s2.pushReps rp) (by rw [List.length_map]; exact rp.len) fo hc k
  rw [hK] at z
  exact hM _ H1 Q _ z
end
section
variable {e : En} {P : Rv → En → Prop} {PX : Addr → D → En → Prop} {C : Addr} {m : Str} {con : Con} {ix : List Nat} {nk : Nat} {f : EvF} {g : EvA}
theorem s_methK (k : f e fun r e1 => ∃ fs e2, frz e1 r = some (.obj C fs, e2) ∧ fs.lookup m = none ∧ g e2 fun rs e3 => ∃ ds e4, frzs e3 rs = some (ds, e4) ∧ ds.length = nk ∧ callD PX con ((D.obj C fs :: pmL ix ds).map Ag.v) e4 P) : eMethK PX C m con ix nk f g e P := k
theorem s_makeK (k : g e fun rs e1 => ∃ ds e2, frzs e1 rs = some (ds, e2) ∧ ds.length = nk ∧ callD PX con ((pmL ix ds).map Ag.v) e2 P) : eMakeK PX con ix nk g e P := k
theorem x_frzsK {R : List D → En → Prop} {ds : List D} {e1 : En} {rs : List Rv} (h : frzs e rs = some (ds, e1)) (h2 : ds.length = nk) (k : R ds e1) : ∃ ds e2, frzs e rs = some (ds, e2) ∧ ds.length = nk ∧ R ds e2 := ⟨ds, e1, h, h2, k⟩
end
/-! ### != of own objects, by __eq__ -/
section
open PySem.W
variable {prog : Program} {w : World} {A : Around} {E : Value → Shared → Prop} {s : Shared} {K : Frag} {x C L f : Addr} {h₀ : Heap} {m : Str → Option Value} {ox : Obj} {od : Option Obj} {b tb : Value}
theorem one_bind (self : Value) : bindSpecial (.builtin "object.__ne__") self = pure (.builtin "object.__ne__", [self]) :=
  (Slot.of (T := "object") (name := "__ne__") (owner := "object") (n := "__ne__") (by rw [typeLookup_type, builtinLookup_eq_fast]; kernel_rfl) (by decide +kernel) (by decide +kernel) (by decide +kernel)
    (.inl (by decide +kernel)) (by rw [isSubtype_type]; kernel_rfl)).bind self
theorem objNe_K {Q : Fin → Shared → Prop} (hu : A.units < cLine) (X : K.In s.heap) (I : InstAt s.heap x ox C od) (hs : findIn K (.ref C) "__eq__" = some (some (.ref f))) (hf : isFn K (.ref f) = true)
    (h : wpAny (model prog w) A (call (.ref f) [.ref x, b]) (fun v s' => ∃ bb, v = .bool bb ∧ Q (.done (.ret (.bool (!bb)))) s') E s) : wpAny (model prog w) A (Builtin.«object.__ne__» ⟨[.ref x, b], []⟩) Q E s := by
  have go := ifBound_K (M := model prog w) (A := A) (E := E) (args := [b]) (Q := fun r s' => ∃ bb, r = some (.bool bb) ∧ Q (.done (.ret (.bool (!bb)))) s') X I hs hf (wpAny_mono h (fun v s' hv => by
    obtain ⟨bb, rfl, hq⟩ := hv
    exact ⟨bb, rfl, hq⟩) fun _ _ e => e)
  obtain ⟨hh, g, d, t, os⟩ := s
  unfold Builtin.«object.__ne__»
  repeat (first
    | with_reducible refine wpAny_cRoomFor hu ?_
    | (refine wpAny_bind (m := callSpecialIfBound? (.ref x) (Str.ofString "__eq__") [b]) (wpAny_mono go (fun r s' hr => by
        obtain ⟨bb, rfl, hq⟩ := hr
        repeat (first | exact hq | exact wpAny_pure hq | exact wpAny_truthy_bool hq | (refine wpAny_bind (m := truthy (.bool _)) (wpAny_truthy_bool ?_)) | wp_step)) fun _ _ e => e))
    | wp_step)
theorem ne_K {Q : Value → Shared → Prop} (hu : A.units + 1 < cLine) (F : PyProof.Rows.Fr h₀ L s.heap m) (X₀ : K.In h₀) (I : InstAt s.heap x ox C od) (hb : Looks (model prog w) s.heap (typeOf b) tb) (hn : notFirst K C tb = true)
    (hne : findIn K (.ref C) "__ne__" = some (some (.builtin "object.__ne__"))) (hmo : mroIn K C (.type "object") = some true) (hs : findIn K (.ref C) "__eq__" = some (some (.ref f))) (hf : isFn K (.ref f) = true)
    (h : wpAny (model prog w) A.in1 (call (.ref f) [.ref x, b]) (fun v s' => ∃ bb, v = .bool bb ∧ Q (.bool (!bb)) s') E s) : wpAny (model prog w) A (richCompare .NotEq (.ref x) b) Q E s := by
  have X := X₀.keeps F.keep
  have ck : Looks (model prog w) s.heap (isInstance (.ref x) (.type "object")) true := (I.type).andThen (looks_mroIn X hmo)
  have cl : wpAny (model prog w) A (call (.builtin "object.__ne__") ([.ref x] ++ [b]) >>= fun v => pure (some v)) (fun r s' => ∃ bb, r = some (.bool bb) ∧ Q (.bool bb) s') E s := by
    refine wpAny_bind (wpAny_call (codeAny_call_builtin (id := "object.__ne__") (by decide +kernel) PySem.F.cmpEntry_ne (check_slot PySem.F.cmpKind_ne PySem.F.cmpSplit_ne ck (PySem.F.cmpArgs_ne _ _) ?_) ))
    exact objNe_K (A := A.in1) hu X I hs hf (wpAny_mono h (fun v s' hv => by
      obtain ⟨bb, rfl, hq⟩ := hv
      exact ⟨bb, rfl, wpAny_pure ⟨_, rfl, hq⟩⟩) fun _ _ e => e)
  have one : wpAny (model prog w) A (tryCompare (.ref x) (cmpInfo .NotEq).2.1 b) (fun r s' => ∃ v, r = some v ∧ Q v s') E s := by
    unfold tryCompare
    refine wpAny_bind ?_
    simp only [callSpecialIfBound?, bindSpecialIfBound?]
    refine wpAny_holding (wpAny_bind (wpAny_bind (wpAny_bind (I.type.here ((looks_findIn X hne).here ?_)))))
    refine wpAny_bind (wpAny_askSetting (wpAny_ite ?_))
    split
    · exact wpAny_bind ((Looks.of_pure (one_bind _)).here (wpAny_pure (by exact wpAny_mono cl (fun r s' hr => by obtain ⟨bb, rfl, hq⟩ := hr; exact wpAny_pure ⟨_, rfl, hq⟩) fun _ _ e => e)))
    · exact wpAny_tryCatch (wpAny_bind ((Looks.of_pure (one_bind _)).here (wpAny_pure (by exact wpAny_mono cl (fun r s' hr => by obtain ⟨bb, rfl, hq⟩ := hr; exact wpAny_pure ⟨_, rfl, hq⟩) fun _ _ e => e))))
  unfold richCompare
  simp only [oneThing_ref]
  refine wpAny_holding (wpAny_bind (wpAny_cRoomFor (Nat.lt_of_succ_lt hu) ?_))
  refine wpAny_bind (I.type.here (wpAny_bind (hb.here ?_)))
  split
  · rename_i q
    have e : subIn K tb (.ref C) = some false := by
      rcases Bool.or_eq_true_iff.mp hn with e | e
      · rw [beq_iff_eq.mp e] at q; simp at q
      · exact beq_iff_eq.mp e
    refine wpAny_bind ((looks_subIn X e).here ?_)
    simp only [Bool.false_eq_true, if_false]
    refine wpAny_bind (wpAny_mono one (fun r s' z => ?_) fun _ _ e => e)
    obtain ⟨v, rfl, hq⟩ := z
    exact wpAny_pure hq
  · refine wpAny_bind (wpAny_pure ?_)
    simp only [Bool.false_eq_true, if_false]
    refine wpAny_bind (wpAny_mono one (fun r s' z => ?_) fun _ _ e => e)
    obtain ⟨v, rfl, hq⟩ := z
    exact wpAny_pure hq
end
/-! ### own objects against any value: ==, != -/
def rEqX (K : PySem.W.Frag) (C : Addr) (sp : Sp) (E : XK) : R2 := fun x y H Q => ∃ a dx fs t, x = .ref a ∧ H a = some (.ins C dx fs) ∧ TyX K H y t ∧ PySem.W.notFirst K C t = true ∧ sp [.ref a, y] H Q E
def rNeX (K : PySem.W.Frag) (C : Addr) (sp : Sp) (E : XK) : R2 := fun x y H Q => ∃ a dx fs t, x = .ref a ∧ H a = some (.ins C dx fs) ∧ TyX K H y t ∧ PySem.W.notFirst K C t = true ∧ sp [.ref a, y] H (fun v H2 => ∃ b, v = .bl b ∧ Q (.bl (!b)) H2) E
section
variable {X : Cx} {CX : CXT} {k : Nat} {C g : Addr} {fd : FuncData} {ps : List Str} {sp : Sp} {E : XK}
theorem o_eqX (F : FnOk X.prog X.w X.K X.mg X.base CX k g fd ps sp) (hr : Room k X.A) (hm : Meth X.K C "__eq__" g) (hb : Binds X.K fd ps []) (hx : Passes CX X E) : OpR X (compareOp .Eq) (rEqX X.K C sp E) := by
  intro pins s σ H x y v u Q I rx ry h
  obtain ⟨a, dx, fs, t, rfl, ea, ty, nf, h⟩ := h
  obtain rfl : v = Value.ref a := rx
  obtain ⟨_, O, _⟩ := ins_get I.hok ea
  obtain ⟨_, J, _⟩ := O.look
  obtain ⟨P, Z, p, _⟩ := kit_of I ry ty
  obtain ⟨_, fr⟩ := I.fr
  refine PySem.W.cmp_K (op := .Eq) (tb := t) hr.units0 fr I.ok.mod.kin J (Z.ty _ _ I.kIn p) nf hm.at_ hm.fn ?_
  exact wpAny_mono (run_fn (dvs := []) F hr hb .nil hx I (.cons (show RelV (.ref a) (.ref a) from rfl) (.cons ry .nil)) h) (fun _ _ q => back_of q) fun _ _ z => z
theorem o_neX (F : FnOk X.prog X.w X.K X.mg X.base CX k g fd ps sp) (hr : Room (k + 1) X.A) (hm : Meth X.K C "__eq__" g) (hne : PySem.W.findIn X.K (.ref C) "__ne__" = some (some (.builtin "object.__ne__"))) (hmo : PySem.W.mroIn X.K C (.type "object") = some true) (hb : Binds X.K fd ps []) (hx : Passes CX X E) : OpR X (compareOp .NotEq) (rNeX X.K C sp E) := by
  intro pins s σ H x y v u Q I rx ry h
  obtain ⟨a, dx, fs, t, rfl, ea, ty, nf, h⟩ := h
  obtain rfl : v = Value.ref a := rx
  obtain ⟨_, O, _⟩ := ins_get I.hok ea
  obtain ⟨_, J, _⟩ := O.look
  obtain ⟨P, Z, p, _⟩ := kit_of I ry ty
  obtain ⟨_, fr⟩ := I.fr
  have hu : X.A.units + 1 < cLine := by have := hr.un; omega
  have r2 : Vals [V.ref a, y] [Value.ref a, u] := .cons (show RelV (.ref a) (.ref a) from rfl) (.cons ry .nil)
  have hl : [Value.ref a, u].length = ps.length := by rw [← r2.length]; exact F.len _ _ _ _ h
  refine ne_K (tb := t) hu fr I.ok.mod.kin J (Z.ty _ _ I.kIn p) nf hne hmo hm.at_ hm.fn ?_
  refine wpAny_call (codeAny_mono (F.run X.A.in1 X.stack s H ⟨[.ref a, u], []⟩ [.ref a, u] [.ref a, y] _ E hr.in1 I.env0.in1 (hb s _ I.kIn hl) r2 h) fun r s' hq => ?_)
  cases r with
  | error e => exact hx pins σ H s e s' I hq
  | ok fl =>
    cases fl with
    | ret u' =>
      obtain ⟨z, H', I', rz, b, rfl, q⟩ := I.after hq
      cases (show u' = Value.bool b from rz)
      exact ⟨b, rfl, .bl (!b), H', I', rfl, q⟩
    | next => exact False.elim hq
    | brk => exact False.elim hq
    | cont => exact False.elim hq
end
/-- a value whose class does not come ahead of C in a comparison -/
def NoFst (K : PySem.W.Frag) (C : Addr) (d : D) : Prop := (∀ C' fs, d = .obj C' fs → IsiC K C') ∧ ∃ t, tyOfD d = some t ∧ PySem.W.notFirst K C t = true
def eEqX (K : PySem.W.Frag) (C : Addr) (con : Con) (f1 f2 : EvF) : EvF := fun e P => f1 e fun r1 e1 => f2 e1 fun r2 e2 => ∃ fs d e3 e4, frz e2 r1 = some (.obj C fs, e3) ∧ frz e3 r2 = some (d, e4) ∧ NoFst K C d ∧ callD (fun _ _ _ => False) con [.v (.obj C fs), .v d] e4 P
def eNeX (K : PySem.W.Frag) (C : Addr) (con : Con) (f1 f2 : EvF) : EvF := fun e P => f1 e fun r1 e1 => f2 e1 fun r2 e2 => ∃ fs d e3 e4, frz e2 r1 = some (.obj C fs, e3) ∧ frz e3 r2 = some (d, e4) ∧ NoFst K C d ∧ callD (fun _ _ _ => False) con [.v (.obj C fs), .v d] e4 fun r e5 => ∃ b : Bool, r = .ent (.imm (.bl b)) ∧ P (.ent (.imm (.bl (!b)))) e5
section
variable {X : Cx} {F : Fr} {k : Nat} {C g : Addr} {fd : FuncData} {pn : List Str} {con : Con} {a b : Expr} {f1 f2 : EvF} {pos : Pos}
theorem de_eqX (h1 : DE X F a f1) (h2 : DE X F b f2) (G : FnOk X.prog X.w X.K X.mg X.base (L2.CX X.prog X.w) k g fd pn (spD X.K con)) (hr : Room k X.A) (hm : Meth X.K C "__eq__" g) (hb : Binds X.K fd pn []) (hK : F.K = X.K := by first | rfl | assumption) (hmk : behindInMarks .Eq b = false := by exact nomark _) :
    DE X F (.Compare a [.Eq] [b] pos) (eEqX X.K C con f1 f2) := by
  obtain ⟨t1, p1, d1⟩ := h1
  obtain ⟨t2, p2, d2⟩ := h2
  refine ⟨_, pe_cmpR (o_eqX G hr hm hb (E := fun _ _ _ => False) passL) p1 p2 hmk, fun σ I H e ps P Q s h k' => ?_⟩
  rw [← hK] at h ⊢
  refine d1 σ I H e ps _ _ s h fun x r1 e1 I1 H1 h1 s1 => ?_
  refine d2 σ I1 H1 e1 _ _ _ s1 h1 fun y r2 e2 I2 H2 h2 s2 => ?_
  obtain ⟨fs, d, e3, e4, hf, hg, ⟨hC, t, ht, nf⟩, hc⟩ := h2
  rw [List.append_assoc] at s2
  obtain ⟨I3, _, s3⟩ := s2.frz hf
  have s3' : ST F σ I3 H2 e3 ((ps ++ [(x, .im (.obj C fs))]) ++ [(y, r2)]) := by rw [List.append_assoc]; exact s3
  obtain ⟨I4, _, s4⟩ := s3'.frz hg
  have ry : Rep F.K I4 y d := ST.temp (ps := ps ++ [(x, .im (.obj C fs))]) (qs := []) (t := .imm d) s4
  have rx : Rep F.K I4 x (.obj C fs) := ST.temp (ps := ps) (qs := []) (t := .imm (.obj C fs)) s4.weak
  have ty : TyX F.K H2 y t := tyX_of s4.sub (.inl ry) hC ht
  cases rx with
  | @obj a _ dx fs' _ hx m1 r1 =>
      refine ⟨a, dx, fs', t, rfl, s4.sub _ _ hx, ty, nf, ?_⟩
      refine ST.called (F := F.nox) (I := I4) (ps := ps) (as := [.v (.obj C fs), .v d]) ?_ rfl frok_nox hc fun x r e' I' H' p s => k' x r e' I' H' p s.unnox
      rw [List.append_assoc] at s4
      exact s4.nox
theorem de_neX (h1 : DE X F a f1) (h2 : DE X F b f2) (G : FnOk X.prog X.w X.K X.mg X.base (L2.CX X.prog X.w) k g fd pn (spD X.K con)) (hr : Room (k + 1) X.A) (hm : Meth X.K C "__eq__" g) (hne : PySem.W.findIn X.K (.ref C) "__ne__" = some (some (.builtin "object.__ne__"))) (hmo : PySem.W.mroIn X.K C (.type "object") = some true) (hb : Binds X.K fd pn []) (hK : F.K = X.K := by first | rfl | assumption) (hmk : behindInMarks .NotEq b = false := by exact nomark _) :
    DE X F (.Compare a [.NotEq] [b] pos) (eNeX X.K C con f1 f2) := by
  obtain ⟨t1, p1, d1⟩ := h1
  obtain ⟨t2, p2, d2⟩ := h2
  refine ⟨_, pe_cmpR (o_neX G hr hm hne hmo hb (E := fun _ _ _ => False) passL) p1 p2 hmk, fun σ I H e ps P Q s h k' => ?_⟩
  rw [← hK] at h ⊢
  refine d1 σ I H e ps _ _ s h fun x r1 e1 I1 H1 h1 s1 => ?_
  refine d2 σ I1 H1 e1 _ _ _ s1 h1 fun y r2 e2 I2 H2 h2 s2 => ?_
  obtain ⟨fs, d, e3, e4, hf, hg, ⟨hC, t, ht, nf⟩, hc⟩ := h2
  rw [List.append_assoc] at s2
  obtain ⟨I3, _, s3⟩ := s2.frz hf
  have s3' : ST F σ I3 H2 e3 ((ps ++ [(x, .im (.obj C fs))]) ++ [(y, r2)]) := by rw [List.append_assoc]; exact s3
  obtain ⟨I4, _, s4⟩ := s3'.frz hg
  have ry : Rep F.K I4 y d := ST.temp (ps := ps ++ [(x, .im (.obj C fs))]) (qs := []) (t := .imm d) s4
  have rx : Rep F.K I4 x (.obj C fs) := ST.temp (ps := ps) (qs := []) (t := .imm (.obj C fs)) s4.weak
  have ty : TyX F.K H2 y t := tyX_of s4.sub (.inl ry) hC ht
  cases rx with
  | @obj a _ dx fs' _ hx m1 r1 =>
      refine ⟨a, dx, fs', t, rfl, s4.sub _ _ hx, ty, nf, ?_⟩
      have s5 : ST F.nox σ I4 H2 e4 (ps ++ [V.ref a, y].zip ([Ag.v (.obj C fs), Ag.v d].map Ag.rv)) := by
        rw [List.append_assoc] at s4
        exact s4.nox
      refine ST.called (F := F.nox) (I := I4) (ps := ps) (as := [.v (.obj C fs), .v d]) s5 rfl frok_nox hc fun x r e' I' H' ⟨b, hb', p⟩ s => ?_
      subst hb'
      have rn : Rep F.K I' x (.bl b) := ST.temp (F := F.nox) (qs := []) (t := .imm (.bl b)) s
      cases rn
      exact ⟨b, rfl, k' _ _ e' I' H' p (s.unnox.weak.pushI (.bl (!b)))⟩
end
/-! ### xs[::-1] -/
theorem fm_congr {α β : Type} {f g : α → Option β} : ∀ {l : List α}, (∀ x ∈ l, f x = g x) → l.filterMap f = l.filterMap g
  | [], _ => rfl
  | x :: l, h => by
    rw [List.filterMap_cons, List.filterMap_cons, h x (List.mem_cons_self ..), fm_congr (l := l) fun y hy => h y (List.mem_cons_of_mem _ hy)]
theorem pick_rev {α : Type} (l : List α) : ((List.range l.length).map fun (k : Nat) => ((l.length : Int) - 1 + -1 * (k : Int)).toNat).filterMap (l.toArray[·]?) = l.reverse := by
  have e := pick_run l.reverse.toArray 0 l.length
  have e2 : (l.reverse.toArray.toList.drop 0).take l.length = l.reverse := by
    show (l.reverse.drop 0).take l.length = l.reverse
    rw [List.drop_zero, List.take_of_length_le (by rw [List.length_reverse]; exact Nat.le_refl _)]
  rw [e2] at e
  rw [← e, List.filterMap_map, List.filterMap_map]
  refine fm_congr fun k hk => ?_
  have hk := List.mem_range.mp hk
  show l.toArray[((l.length : Int) - 1 + -1 * (k : Int)).toNat]? = l.reverse.toArray[0 + k]?
  rw [show ((l.length : Int) - 1 + -1 * (k : Int)).toNat = l.length - 1 - k by omega, Nat.zero_add, List.getElem?_toArray, List.getElem?_toArray, List.getElem?_reverse hk]
theorem sliceRange_back (n : Nat) : sliceRange ((n : Int) - 1) (-1) (-1) = (List.range n).map fun (k : Nat) => ((n : Int) - 1 + -1 * (k : Int)).toNat := by
  have c : ((if (-1 : Int) > 0 then (if (n : Int) - 1 < -1 then (-1 - ((n : Int) - 1) + -1 - 1) / -1 else 0) else (if (n : Int) - 1 > -1 then ((n : Int) - 1 - -1 - -1 - 1) / (- -1) else 0)) : Int).toNat = n := by
    rw [if_neg (by decide)]
    by_cases h : (n : Int) - 1 > -1
    · rw [if_pos h, show (- -1 : Int) = 1 by decide, Int.ediv_one]
      omega
    · rw [if_neg h]
      omega
  show (List.range ((if (-1 : Int) > 0 then (if (n : Int) - 1 < -1 then (-1 - ((n : Int) - 1) + -1 - 1) / -1 else 0) else (if (n : Int) - 1 > -1 then ((n : Int) - 1 - -1 - -1 - 1) / (- -1) else 0)) : Int).toNat).map _ = _
  rw [c]
theorem slicePick_rev (its : List Value) : slicePick its.toArray none none (some (-1)) = its.reverse.toArray := by
  have e : sliceBounds none none (some (-1)) its.toArray.size = ((its.length : Int) - 1, -1, -1) := by
    rw [List.size_toArray]
    rfl
  unfold slicePick
  rw [e, ← pick_rev its]
  show ((sliceRange ((its.length : Int) - 1) (-1) (-1)).filterMap _).toArray = _
  rw [sliceRange_back]
def rRev (K : PySem.W.Frag) : V → Hp → VK → Prop := fun x H Q => ∃ a xs, x = .ref a ∧ SqL K H a xs ∧ ∀ p, H p = none → Q (.ref p) (upd H p (.lst xs.reverse))
def tRev (K : PySem.W.Frag) (te ts : TE) : TE := fun σ H Q => te σ H fun x H1 => ts σ H1 fun z H2 => z = .int (-1) ∧ rRev K x H2 Q
def eRev (f g : EvF) : EvF := fun e P => f e fun r e1 => g e1 fun r2 e2 => ∃ ds, val e2 r = some (.lst ds) ∧ val e2 r2 = some (.int (-1)) ∧ ∀ a, P (.ent (.own a (.lst ds.reverse))) e2
section
variable {X : Cx} {F : Fr} {f g : EvF} {e st : Expr} {te ts : TE} {p2 pos : Pos}
theorem pe_rev (he : PE X e te) (hs : PE X st ts) : PE X (.Subscript e (.Slice none none (some st) p2) pos) (tRev X.K te ts) := by
  refine ⟨fun pins s σ H Q I h => ?_⟩
  refine Subscript_ (thn (he.run pins s σ H _ I h) fun v s1 ⟨x, H1, I1, r1, q1⟩ => ?_)
  refine wpAny_Slice ?_
  rw [evalPart_none]
  refine wpAny_pure (wpAny_pure ?_)
  rw [evalPart_some]
  refine thn (hs.run pins s1 σ H1 _ I1 q1) fun vs s3 ⟨z, H3, I3, rz, hz, a, xs, hx, hq, q⟩ => ?_
  subst hz
  subst hx
  obtain ⟨tz, rfl⟩ := rz
  cases (show v = Value.ref a from r1)
  obtain ⟨s4, hs4⟩ : ∃ s4 : Shared, s4 = { s3 with heap := s3.heap.push { cls := .type "slice", data := .fields #[.none, .none, .int (-1) tz] } } := ⟨_, rfl⟩
  have I4 : Inv X pins σ H3 s4 := by
    rw [hs4]
    exact I3.kept (t' := s3.toks) fun b ob q => Heap.get?_push_of_some _ q
  have hsl : s4.heap.IsSliceOf s3.heap.objs.size .none .none (.int (-1) tz) := by
    rw [hs4]
    exact Heap.IsSliceOf.new ..
  obtain ⟨its, r, ht, hz⟩ := I4.list hq
  have hlen := r.length
  rw [← hs4]
  show wpAny (model X.prog X.w) X.A (subscriptTail e (.Slice none none (some st) p2) (.ref a) (.ref s3.heap.objs.size)) (EP X pins σ Q) X.xe s4
  refine tail_any (ops := [.ref a, .ref s3.heap.objs.size]) ht.isList.typeIs slot_list_getitem.lookup ?_ (by with_unfolding_all rfl)
  refine wpAny_getItem_list_slice ht.isList hsl .none .none (.int (-1) tz) (by simp) ?_ (by rw [List.size_toArray] <;> omega)
  rw [slicePick_rev]
  refine ⟨.ref s4.heap.objs.size, _, I4.laid (t' := s4.toks) (o := .lst xs.reverse) (fun b ob q => Heap.get?_push_of_some _ q) (Nat.le_refl _) ?_, rfl, q _ (I4.hok.fresh (Nat.le_refl _))⟩
  exact ⟨by rw [List.length_reverse]; exact hz, _, 0, r.reverse, Heap.get?_push_size _ rfl⟩
theorem de_rev (h1 : DE X F e f) (h2 : DE X F st g) (hK : F.K = X.K := by first | rfl | assumption) : DE X F (.Subscript e (.Slice none none (some st) p2) pos) (eRev f g) := by
  obtain ⟨t1, p1, d1⟩ := h1
  obtain ⟨t2, p2, d2⟩ := h2
  refine ⟨_, pe_rev p1 p2, fun σ I H e ps P Q s h k => ?_⟩
  rw [← hK]
  refine d1 σ I H e ps _ _ s h fun x r e1 I1 H1 h1 s1 => ?_
  refine d2 σ I1 H1 e1 _ _ _ s1 h1 fun y r2 e2 I2 H2 h2 s2 => ?_
  obtain ⟨ds, v1, v2, q⟩ := h2
  have w2 := s2.vw (qs := []) v2
  have s2' := s2
  rw [List.append_assoc] at s2'
  have w1 := s2'.vw (qs := [(y, r2)]) v1
  obtain ⟨a, xs, rfl, q1, rr⟩ := w1.lst s2.sub
  have kk : Lands F.K I2 H2 (fun t => P (.ent t) e2) Q := fun z t I4 H4 p4 g4 r4 n4 => k z _ e2 I4 H4 p4 (s2.weak.weak.pushG g4 r4 n4)
  exact ⟨w2.int, a, xs, rfl, SqL.of q1, kk.lst s2.sub q rr.rev⟩
end
theorem s_rev {f g : EvF} {e : En} {P : Rv → En → Prop} (k : f e fun r e1 => g e1 fun r2 e2 => ∃ ds, val e2 r = some (.lst ds) ∧ val e2 r2 = some (.int (-1)) ∧ ∀ a, P (.ent (.own a (.lst ds.reverse))) e2) : eRev f g e P := k
theorem s_eqX {K : PySem.W.Frag} {C : Addr} {con : Con} {f1 f2 : EvF} {e : En} {P : Rv → En → Prop} (k : f1 e fun r1 e1 => f2 e1 fun r2 e2 => ∃ fs d e3 e4, frz e2 r1 = some (.obj C fs, e3) ∧ frz e3 r2 = some (d, e4) ∧ NoFst K C d ∧ callD (fun _ _ _ => False) con [.v (.obj C fs), .v d] e4 P) : eEqX K C con f1 f2 e P := k
theorem s_neX {K : PySem.W.Frag} {C : Addr} {con : Con} {f1 f2 : EvF} {e : En} {P : Rv → En → Prop} (k : f1 e fun r1 e1 => f2 e1 fun r2 e2 => ∃ fs d e3 e4, frz e2 r1 = some (.obj C fs, e3) ∧ frz e3 r2 = some (d, e4) ∧ NoFst K C d ∧ callD (fun _ _ _ => False) con [.v (.obj C fs), .v d] e4 fun r e5 => ∃ b : Bool, r = .ent (.imm (.bl b)) ∧ P (.ent (.imm (.bl (!b)))) e5) : eNeX K C con f1 f2 e P := k
theorem x_nb {b : Bool} {R : Bool → Prop} (k : R b) : ∃ c : Bool, Rv.ent (.imm (.bl b)) = .ent (.imm (.bl c)) ∧ R c := ⟨b, rfl, k⟩
theorem x_rev {e : En} {r1 r2 : Rv} {ds : List D} {R : List D → Prop} (h : val e r1 = some (.lst ds)) (h2 : val e r2 = some (.int (-1))) (k : R ds) : ∃ ds, val e r1 = some (.lst ds) ∧ val e r2 = some (.int (-1)) ∧ R ds := ⟨ds, h, h2, k⟩
/-! ### range with great ends -/
section
open PySem.W
theorem turn_long {P : Program} {w : World} {K : PySem.W.Frag} {tg : Expr} (it : Addr) (lo : Int) (n : Nat) : Turn P w K tg (Itr lo n) [it] it (fun i h => IsLongIter h it (lo + (i : Nat) * 1) ((n : Int) - (i : Nat)) 1) where
  mem := by simp
  obj := fun i h st b hb => by
    have e : b = it := by simpa using hb
    subst e
    exact ⟨_, st, fun v z => by
      have z' : Data.fields _ = Data.cell v := z
      cases z'⟩
  keep := fun i h h' st k => k it (by simp) _ st
  item := by
    intro X hP hw hK hc i pins s σ H E I hf st hg
    subst hP hw hK
    obtain ⟨f0, f1, f2, f3, f4, f5⟩ := hf it (by simp)
    have W := Walks.longrange (prog := X.prog) (w := X.w) (I.ok.hd hc) it lo 1 n
    refine W.item i s _ _ hg st fun v h' tk hv st' kk => ?_
    obtain ⟨t, rfl⟩ := hv
    have I1 : Inv X pins σ H { s with heap := h', toks := tk } := I.turned (fun b o hb e => kk b o (by simpa using hb) e) f0 f1 f3 f4 f5
    refine ⟨_, rfl, go_of (s := { s with heap := h', toks := tk }) (n := "longrange_iterator") st' rfl rfl (by decide) ⟨.int (lo + i), H, I1, ⟨t, ?_⟩, ⟨rfl, rfl⟩, st', fun b hb => (hf b hb).1⟩⟩
    rw [Int.mul_one]
  done := by
    intro X hP hw hK hc i pins s σ H E I hf st hg
    subst hP hw hK
    obtain ⟨f0, f1, f2, f3, f4, f5⟩ := hf it (by simp)
    exact wpAny_pyNext_long_end (I.ok.hd hc) st (by have : n ≤ i := hg; omega) fun h' eb => ⟨rfl, I.turned (t' := s.toks) (fun b o hb e => eb b o hb e) f0 f1 f3 f4 f5⟩
  self := fun _ _ _ _ _ st h => wpAny_pyIter_longiter st h
variable {X : Cx} {tg : Expr}
theorem range_itL {pins : List (Addr × Obj)} {σ : L2.St} {H : Hp} {s : Shared} {R : It → Hp → Prop} {E : Value → Shared → Prop} {lo hi : Int} {t u v : Tok} {tk : Nat} (I : Inv X pins σ H s)
    (q : R (Itr lo (hi - lo).toNat) H) : wpAny (model X.prog X.w) X.A (pyIter (.ref s.heap.objs.size)) (PIE X pins σ tg R) E { s with heap := s.heap.push { cls := .type "range", data := .fields #[.int lo t, .int hi u, .int 1 v] }, toks := tk } := by
  have I1 : Inv X pins σ H { s with heap := s.heap.push { cls := .type "range", data := .fields #[.int lo t, .int hi u, .int 1 v] }, toks := tk } := I.kept fun b o e => Heap.get?_push_of_some _ e
  have sz : (((hi - lo).toNat : Nat) : Int) - ((0 : Nat) : Int) = Builtin.Range.rangeSize lo hi 1 := by rw [rangeSize_one]; split <;> omega
  have e1 : lo + ((0 : Nat) : Int) * 1 = lo := by simp
  have fp : ∀ b ∈ [(s.heap.push { cls := .type "range", data := .fields #[.int lo t, .int hi u, .int 1 v] }).objs.size], FpOk X pins H b := fun b hb => by
    have e : b = (s.heap.push { cls := .type "range", data := .fields #[.int lo t, .int hi u, .int 1 v] }).objs.size := by simpa using hb
    subst e
    exact I1.fpOk (Nat.le_refl _) (I1.hok.fresh (Nat.le_refl _))
  cases hs : Builtin.Range.small lo hi 1 with
  | true =>
    refine wpAny_pyIter_range (IsRange.new ..) hs ?_
    refine ⟨(s.heap.push { cls := .type "range", data := .fields #[.int lo t, .int hi u, .int 1 v] }).objs.size, [(s.heap.push { cls := .type "range", data := .fields #[.int lo t, .int hi u, .int 1 v] }).objs.size], _, _, H, rfl,
      I1.kept (t' := tk) fun b o e => Heap.get?_push_of_some _ e, turn_range _ lo (hi - lo).toNat, ?_, fp, q⟩
    show IsRangeIter _ _ (lo + ((0 : Nat) : Int) * 1) ((((hi - lo).toNat : Nat) : Int) - ((0 : Nat) : Int)) 1
    rw [e1, sz]
    exact Heap.get?_push_size _ rfl
  | false =>
    refine wpAny_pyIter_longrange (IsRange.new ..) hs ?_
    refine ⟨(s.heap.push { cls := .type "range", data := .fields #[.int lo t, .int hi u, .int 1 v] }).objs.size, [(s.heap.push { cls := .type "range", data := .fields #[.int lo t, .int hi u, .int 1 v] }).objs.size], _, _, H, rfl,
      I1.kept (t' := tk) fun b o e => Heap.get?_push_of_some _ e, turn_long _ lo (hi - lo).toNat, ?_, fp, q⟩
    show IsLongIter _ _ (lo + ((0 : Nat) : Int) * 1) ((((hi - lo).toNat : Nat) : Int) - ((0 : Nat) : Int)) 1
    rw [e1, sz]
    exact Heap.get?_push_size _ rfl
def iRng1L (ta : TA) : TI := fun σ H R => ta σ H fun vs H1 => ∃ j : Int, vs = [.int j] ∧ R (Itr 0 (j - 0).toNat) H1
def iRng2L (ta : TA) : TI := fun σ H R => ta σ H fun vs H1 => ∃ i j : Int, vs = [.int i, .int j] ∧ R (Itr i (j - i).toNat) H1
theorem pi_range1L {a : Expr} {ta : TA} {p pos : Pos} (hg : Gl X "range") (hm : X.mg "range" = none) (ha : PA X [a] ta) (hs : starEach [a] X.env = [(false, eval a X.env)] := by rfl) : PI X tg (.Call (.Name "range" p) [a] [] pos) (iRng1L ta) := by
  refine ⟨fun pins s σ H R I h => ?_⟩
  refine Call_ (ld_blt I hg hm boot_range (PyProof.Rows.callWith_type1 (thn (ha.run pos pins s σ H _ I h) fun us s1 ⟨vs, H1, I1, r1, q1⟩ => ?_) hs rfl))
  obtain ⟨j, e, q⟩ := q1
  subst e
  cases r1 with
  | cons r rr =>
    cases rr
    obtain ⟨t, rfl⟩ := r
    exact call_range_1 (range_itL I1 q)
theorem pi_range2L {a b : Expr} {ta : TA} {p pos : Pos} (hg : Gl X "range") (hm : X.mg "range" = none) (ha : PA X [a, b] ta) (hs : starEach [a, b] X.env = [(false, eval a X.env), (false, eval b X.env)] := by rfl) (hs2 : starEach [b] X.env = [(false, eval b X.env)] := by rfl) :
    PI X tg (.Call (.Name "range" p) [a, b] [] pos) (iRng2L ta) := by
  refine ⟨fun pins s σ H R I h => ?_⟩
  refine Call_ (ld_blt I hg hm boot_range (PyProof.Rows.callWith_type1 (thn (ha.run pos pins s σ H _ I h) fun us s1 ⟨vs, H1, I1, r1, q1⟩ => ?_) (by rw [hs, hs2]) (by rw [hs2]; rfl)))
  obtain ⟨i, j, e, q⟩ := q1
  subst e
  cases r1 with
  | cons r rr =>
    cases rr with
    | cons r' rr =>
      cases rr
      obtain ⟨t, rfl⟩ := r
      obtain ⟨t', rfl⟩ := r'
      exact call_range_2 (range_itL I1 q)
end
def LongR (p : Prop) : Prop := p
def wRng1L (f : EvA) : EvI := fun e P => f e fun rs e1 => ∃ j, vals e1 rs = some [.int j] ∧ LongR (P (rngD 0 1 (j - 0).toNat) e1)
def wRng2L (f : EvA) : EvI := fun e P => f e fun rs e1 => ∃ i j, vals e1 rs = some [.int i, .int j] ∧ LongR (P (rngD i 1 (j - i).toNat) e1)
section
variable {X : Cx} {F : Fr} {tg a b : Expr} {g : EvA} {p pos : Pos} {fa : EvA} {e : En} {rs : List Rv}
theorem di_rng1L (hg : Gl X "range") (hm : X.mg "range" = none) (h : DA X F [a] g) (hs : starEach [a] X.env = [(false, eval a X.env)] := by rfl) : DI X F tg (.Call (.Name "range" p) [a] [] pos) (wRng1L g) := by
  obtain ⟨t, q, d⟩ := h
  refine ⟨_, pi_range1L hg hm q hs, fun σ I H e ps P R s h k => ?_⟩
  refine d σ I H e ps _ _ s h fun xs rs e1 I1 H1 h1 hl s1 => ?_
  obtain ⟨j, v, h2⟩ := h1
  exact ⟨j, (s1.vws hl v).ints1, k _ _ [] e1 I1 H1 h2 imms0 (by rw [List.append_nil]; exact s1.weak) itd_rng⟩
theorem di_rng2L (hg : Gl X "range") (hm : X.mg "range" = none) (h : DA X F [a, b] g) (hs : starEach [a, b] X.env = [(false, eval a X.env), (false, eval b X.env)] := by rfl) (hs2 : starEach [b] X.env = [(false, eval b X.env)] := by rfl) :
    DI X F tg (.Call (.Name "range" p) [a, b] [] pos) (wRng2L g) := by
  obtain ⟨t, q, d⟩ := h
  refine ⟨_, pi_range2L hg hm q hs hs2, fun σ I H e ps P R s h k => ?_⟩
  refine d σ I H e ps _ _ s h fun xs rs e1 I1 H1 h1 hl s1 => ?_
  obtain ⟨i, j, v, h2⟩ := h1
  exact ⟨i, j, (s1.vws hl v).ints2, k _ _ [] e1 I1 H1 h2 imms0 (by rw [List.append_nil]; exact s1.weak) itd_rng⟩
theorem s_rng1L {PI : List D → En → Prop} (k : fa e fun rs e1 => ∃ j, vals e1 rs = some [.int j] ∧ LongR (PI (rngD 0 1 (j - 0).toNat) e1)) : wRng1L fa e PI := k
theorem x_rng1L {R : Int → Prop} {z : Int} (h : vals e rs = some [.int z]) (k : R z) : ∃ j, vals e rs = some [.int j] ∧ LongR (R j) := ⟨z, h, k⟩
theorem s_rng2L {PI : List D → En → Prop} (k : fa e fun rs e1 => ∃ i j, vals e1 rs = some [.int i, .int j] ∧ LongR (PI (rngD i 1 (j - i).toNat) e1)) : wRng2L fa e PI := k
theorem x_rng2L {R : Int → Int → Prop} {x z : Int} (h : vals e rs = some [.int x, .int z]) (k : R x z) : ∃ i j, vals e rs = some [.int i, .int j] ∧ LongR (R i j) := ⟨x, z, h, k⟩
end
/-! ### list * int; lists of ints compared; isinstance of built-in things -/
abbrev intsD (ns : List Int) : D := .lst (ns.map D.int)
theorem isi_of {K : PySem.W.Frag} {d : D} {T : Value} {n : String} {b : Bool} {P : Ent → Prop} (h0 : ∀ C fs, d ≠ .obj C fs) (ht : tyOfD d = some T) (h : PySem.W.kitOne K T (.type n) = some b) (k : P (.imm (.bl b))) : cIsi K [d, .ty n] P :=
  ⟨d, .ty n, rfl, fun C fs e => absurd e (h0 C fs), T, .type n, b, ht, rfl, h, k⟩
theorem isi_int {K : PySem.W.Frag} {i : Int} {n : String} {b : Bool} {P : Ent → Prop} (h : PySem.W.kitOne K (.type "int") (.type n) = some b) (k : P (.imm (.bl b))) : cIsi K [.int i, .ty n] P := isi_of (fun _ _ => nofun) rfl h k
theorem isi_bl {K : PySem.W.Frag} {i : Bool} {n : String} {b : Bool} {P : Ent → Prop} (h : PySem.W.kitOne K (.type "bool") (.type n) = some b) (k : P (.imm (.bl b))) : cIsi K [.bl i, .ty n] P := isi_of (fun _ _ => nofun) rfl h k
theorem isi_str {K : PySem.W.Frag} {i : Str} {n : String} {b : Bool} {P : Ent → Prop} (h : PySem.W.kitOne K (.type "str") (.type n) = some b) (k : P (.imm (.bl b))) : cIsi K [.str i, .ty n] P := isi_of (fun _ _ => nofun) rfl h k
theorem isi_non {K : PySem.W.Frag} {n : String} {b : Bool} {P : Ent → Prop} (h : PySem.W.kitOne K (.type "NoneType") (.type n) = some b) (k : P (.imm (.bl b))) : cIsi K [.non, .ty n] P := isi_of (fun _ _ => nofun) rfl h k
theorem isi_tup {K : PySem.W.Frag} {ds : List D} {n : String} {b : Bool} {P : Ent → Prop} (h : PySem.W.kitOne K (.type "tuple") (.type n) = some b) (k : P (.imm (.bl b))) : cIsi K [.tup ds, .ty n] P := ⟨_, _, rfl, fun C fs e => (by cases e), _, _, b, rfl, rfl, h, k⟩
theorem isi_lst {K : PySem.W.Frag} {ds : List D} {n : String} {b : Bool} {P : Ent → Prop} (h : PySem.W.kitOne K (.type "list") (.type n) = some b) (k : P (.imm (.bl b))) : cIsi K [.lst ds, .ty n] P := ⟨_, _, rfl, fun C fs e => (by cases e), _, _, b, rfl, rfl, h, k⟩
theorem isi_bl_bool {K : PySem.W.Frag} {i : Bool} {P : Ent → Prop} (k : P (.imm (.bl true))) : cIsi K [.bl i, .ty "bool"] P := isi_bl rfl k
theorem isi_bl_int {K : PySem.W.Frag} {i : Bool} {P : Ent → Prop} (k : P (.imm (.bl true))) : cIsi K [.bl i, .ty "int"] P := isi_bl rfl k
theorem isi_bl_str {K : PySem.W.Frag} {i : Bool} {P : Ent → Prop} (k : P (.imm (.bl false))) : cIsi K [.bl i, .ty "str"] P := isi_bl rfl k
theorem isi_bl_list {K : PySem.W.Frag} {i : Bool} {P : Ent → Prop} (k : P (.imm (.bl false))) : cIsi K [.bl i, .ty "list"] P := isi_bl rfl k
theorem isi_bl_tuple {K : PySem.W.Frag} {i : Bool} {P : Ent → Prop} (k : P (.imm (.bl false))) : cIsi K [.bl i, .ty "tuple"] P := isi_bl rfl k
theorem isi_int_bool {K : PySem.W.Frag} {i : Int} {P : Ent → Prop} (k : P (.imm (.bl false))) : cIsi K [.int i, .ty "bool"] P := isi_int rfl k
theorem isi_int_int {K : PySem.W.Frag} {i : Int} {P : Ent → Prop} (k : P (.imm (.bl true))) : cIsi K [.int i, .ty "int"] P := isi_int rfl k
theorem isi_int_str {K : PySem.W.Frag} {i : Int} {P : Ent → Prop} (k : P (.imm (.bl false))) : cIsi K [.int i, .ty "str"] P := isi_int rfl k
theorem isi_int_list {K : PySem.W.Frag} {i : Int} {P : Ent → Prop} (k : P (.imm (.bl false))) : cIsi K [.int i, .ty "list"] P := isi_int rfl k
theorem isi_int_tuple {K : PySem.W.Frag} {i : Int} {P : Ent → Prop} (k : P (.imm (.bl false))) : cIsi K [.int i, .ty "tuple"] P := isi_int rfl k
theorem isi_str_bool {K : PySem.W.Frag} {i : Str} {P : Ent → Prop} (k : P (.imm (.bl false))) : cIsi K [.str i, .ty "bool"] P := isi_str rfl k
theorem isi_str_int {K : PySem.W.Frag} {i : Str} {P : Ent → Prop} (k : P (.imm (.bl false))) : cIsi K [.str i, .ty "int"] P := isi_str rfl k
theorem isi_str_str {K : PySem.W.Frag} {i : Str} {P : Ent → Prop} (k : P (.imm (.bl true))) : cIsi K [.str i, .ty "str"] P := isi_str rfl k
theorem isi_str_list {K : PySem.W.Frag} {i : Str} {P : Ent → Prop} (k : P (.imm (.bl false))) : cIsi K [.str i, .ty "list"] P := isi_str rfl k
theorem isi_str_tuple {K : PySem.W.Frag} {i : Str} {P : Ent → Prop} (k : P (.imm (.bl false))) : cIsi K [.str i, .ty "tuple"] P := isi_str rfl k
theorem isi_lst_bool {K : PySem.W.Frag} {ds : List D} {P : Ent → Prop} (k : P (.imm (.bl false))) : cIsi K [.lst ds, .ty "bool"] P := isi_lst rfl k
theorem isi_lst_int {K : PySem.W.Frag} {ds : List D} {P : Ent → Prop} (k : P (.imm (.bl false))) : cIsi K [.lst ds, .ty "int"] P := isi_lst rfl k
theorem isi_lst_str {K : PySem.W.Frag} {ds : List D} {P : Ent → Prop} (k : P (.imm (.bl false))) : cIsi K [.lst ds, .ty "str"] P := isi_lst rfl k
theorem isi_lst_list {K : PySem.W.Frag} {ds : List D} {P : Ent → Prop} (k : P (.imm (.bl true))) : cIsi K [.lst ds, .ty "list"] P := isi_lst rfl k
theorem isi_lst_tuple {K : PySem.W.Frag} {ds : List D} {P : Ent → Prop} (k : P (.imm (.bl false))) : cIsi K [.lst ds, .ty "tuple"] P := isi_lst rfl k
theorem isi_tup_bool {K : PySem.W.Frag} {ds : List D} {P : Ent → Prop} (k : P (.imm (.bl false))) : cIsi K [.tup ds, .ty "bool"] P := isi_tup rfl k
theorem isi_tup_int {K : PySem.W.Frag} {ds : List D} {P : Ent → Prop} (k : P (.imm (.bl false))) : cIsi K [.tup ds, .ty "int"] P := isi_tup rfl k
theorem isi_tup_str {K : PySem.W.Frag} {ds : List D} {P : Ent → Prop} (k : P (.imm (.bl false))) : cIsi K [.tup ds, .ty "str"] P := isi_tup rfl k
theorem isi_tup_list {K : PySem.W.Frag} {ds : List D} {P : Ent → Prop} (k : P (.imm (.bl false))) : cIsi K [.tup ds, .ty "list"] P := isi_tup rfl k
theorem isi_tup_tuple {K : PySem.W.Frag} {ds : List D} {P : Ent → Prop} (k : P (.imm (.bl true))) : cIsi K [.tup ds, .ty "tuple"] P := isi_tup rfl k
theorem isi_non_bool {K : PySem.W.Frag}  {P : Ent → Prop} (k : P (.imm (.bl false))) : cIsi K [.non, .ty "bool"] P := isi_non rfl k
theorem isi_non_int {K : PySem.W.Frag}  {P : Ent → Prop} (k : P (.imm (.bl false))) : cIsi K [.non, .ty "int"] P := isi_non rfl k
theorem isi_non_str {K : PySem.W.Frag}  {P : Ent → Prop} (k : P (.imm (.bl false))) : cIsi K [.non, .ty "str"] P := isi_non rfl k
theorem isi_non_list {K : PySem.W.Frag}  {P : Ent → Prop} (k : P (.imm (.bl false))) : cIsi K [.non, .ty "list"] P := isi_non rfl k
theorem isi_non_tuple {K : PySem.W.Frag}  {P : Ent → Prop} (k : P (.imm (.bl false))) : cIsi K [.non, .ty "tuple"] P := isi_non rfl k
theorem o_isN_non  {P : Ent → Prop} (k : P (.imm (.bl true))) : oIs (.non) .non P := k
theorem o_notN_non  {P : Ent → Prop} (k : P (.imm (.bl false))) : oIsNot (.non) .non P := k
theorem o_isN_bl {i : Bool} {P : Ent → Prop} (k : P (.imm (.bl false))) : oIs (.bl i) .non P := k
theorem o_notN_bl {i : Bool} {P : Ent → Prop} (k : P (.imm (.bl true))) : oIsNot (.bl i) .non P := k
theorem o_isN_int {i : Int} {P : Ent → Prop} (k : P (.imm (.bl false))) : oIs (.int i) .non P := k
theorem o_notN_int {i : Int} {P : Ent → Prop} (k : P (.imm (.bl true))) : oIsNot (.int i) .non P := k
theorem o_isN_str {i : Str} {P : Ent → Prop} (k : P (.imm (.bl false))) : oIs (.str i) .non P := k
theorem o_notN_str {i : Str} {P : Ent → Prop} (k : P (.imm (.bl true))) : oIsNot (.str i) .non P := k
theorem o_isN_lst {ds : List D} {P : Ent → Prop} (k : P (.imm (.bl false))) : oIs (.lst ds) .non P := k
theorem o_notN_lst {ds : List D} {P : Ent → Prop} (k : P (.imm (.bl true))) : oIsNot (.lst ds) .non P := k
theorem o_isN_tup {ds : List D} {P : Ent → Prop} (k : P (.imm (.bl false))) : oIs (.tup ds) .non P := k
theorem o_notN_tup {ds : List D} {P : Ent → Prop} (k : P (.imm (.bl true))) : oIsNot (.tup ds) .non P := k
theorem o_isN_obj {C : Addr} {fs : List (Str × D)} {P : Ent → Prop} (k : P (.imm (.bl false))) : oIs (.obj C fs) .non P := k
theorem o_notN_obj {C : Addr} {fs : List (Str × D)} {P : Ent → Prop} (k : P (.imm (.bl true))) : oIsNot (.obj C fs) .non P := k
theorem o_eqB {a b : Bool} {P : Ent → Prop} (k : P (.imm (.bl (decide (a = b))))) : oEq (.bl a) (.bl b) P := by
  refine ⟨rfl, rfl, ?_⟩
  rw [show eqD (.bl a) (.bl b) = decide (a = b) from by cases a <;> cases b <;> rfl]
  exact k
def oRep : DO2
  | .lst ds, .int k, P => (-(2 ^ 63) ≤ k ∧ k < 2 ^ 63) ∧ ds.length * k.toNat ≤ sizeLine ∧ ∀ a, P (.own a (.lst (List.replicate k.toNat ds).flatten))
  | _, _, _ => False
theorem o_rep {ds : List D} {k : Int} {P : Ent → Prop} (h1 : -(2 ^ 63) ≤ k ∧ k < 2 ^ 63) (h2 : ds.length * k.toNat ≤ sizeLine) (q : ∀ a, P (.own a (.lst (List.replicate k.toNat ds).flatten))) : oRep (.lst ds) (.int k) P := ⟨h1, h2, q⟩
theorem Reps.rep {K : PySem.W.Frag} {I : Hp} {xs : List V} {ds : List D} (h : Reps K I xs ds) : ∀ n : Nat, Reps K I (List.replicate n xs).flatten (List.replicate n ds).flatten
  | 0 => .nil
  | n + 1 => by
    rw [List.replicate_succ, List.replicate_succ, List.flatten_cons, List.flatten_cons]
    exact h.app (h.rep n)
theorem dor_rep {X : Cx} : DOR X (binaryOp .Mult) oRep := ⟨_, op_rep, fun I H x y c d P Q s v1 v2 h k => by
  cases c with
  | lst ds =>
    cases d with
    | int j =>
      obtain ⟨a, xs, rfl, h1, r1⟩ := v1.lst s
      exact ⟨a, j, xs, rfl, v2.int, h1, h.1.1, h.1.2, by rw [r1.len]; exact h.2.1, k.lst s h.2.2 (r1.rep _)⟩
    | _ => exact h.elim
  | _ => exact h.elim⟩
theorem okDs_ints (n : Nat) : ∀ ns : List Int, okDs n (toPys (ns.map D.int)) = true
  | [] => rfl
  | i :: ns => by
    rw [List.map_cons, toPys, okDs, okDs_ints n ns]
    rfl
theorem toPys_len : ∀ ds : List D, (toPys ds).length = ds.length
  | [] => rfl
  | d :: ds => by rw [toPys, List.length_cons, List.length_cons, toPys_len ds]
theorem intsOk (n : Nat) {ns : List Int} (h : ns.length ≤ 1000000) : okD (n + 1) (toPy (intsD ns)) = true := by
  show okD (n + 1) (.list (toPys (ns.map D.int))) = true
  rw [okD, Bool.and_eq_true]
  exact ⟨decide_eq_true (by rw [toPys_len, List.length_map]; exact h), okDs_ints n ns⟩
theorem eqvAll_ints : ∀ a b : List Int, PyData.eqvAll (toPys (a.map D.int)) (toPys (b.map D.int)) = decide (a = b)
  | [], [] => rfl
  | [], _ :: _ => rfl
  | _ :: _, [] => rfl
  | i :: a, j :: b => by
    rw [List.map_cons, List.map_cons, toPys, toPys]
    show (PyData.eqv (.int i) (.int j) && PyData.eqvAll (toPys (a.map D.int)) (toPys (b.map D.int))) = _
    rw [eqvAll_ints a b]
    show (decide (i = j) && decide (a = b)) = _
    by_cases h1 : i = j <;> by_cases h2 : a = b <;> simp [h1, h2]
theorem o_eqIs {a b : List Int} {P : Ent → Prop} (h1 : a.length ≤ 1000000) (h2 : b.length ≤ 1000000) (k : P (.imm (.bl (decide (a = b))))) : oEq (intsD a) (intsD b) P := by
  refine ⟨intsOk 39 h1, intsOk 39 h2, ?_⟩
  rw [show eqD (intsD a) (intsD b) = decide (a = b) from eqvAll_ints a b]
  exact k
theorem o_lenI {ns : List Int} {P : Ent → Prop} (k : P (.imm (.int ((ns.length : Nat) : Int)))) : cLen [intsD ns] P := by
  show P (.imm (.int (((ns.map D.int).length : Nat) : Int)))
  rw [List.length_map]
  exact k
theorem ixI {row : List Int} {z : Int} {P : Ent → Prop} (h0 : 0 ≤ z) (h1 : z < row.length) (k : P (.imm (.int (row.getD z.toNat 0)))) : oIx (intsD row) (.int z) P := by
  refine ⟨z.toNat, .int (row.getD z.toNat 0), ?_, ?_, k⟩
  · unfold ixN
    rw [List.length_map]
    rw [if_pos h0, if_pos (by omega)]
  · have hz : z.toNat < row.length := by omega
    rw [List.getElem?_map, List.getElem?_eq_getElem hz, List.getD_eq_getElem?_getD, List.getElem?_eq_getElem hz]
    rfl
theorem rep_one {α : Type} (r : α) : ∀ n : Nat, (List.replicate n [r]).flatten = List.replicate n r
  | 0 => rfl
  | n + 1 => by rw [List.replicate_succ, List.flatten_cons, rep_one r n]; rfl
theorem o_rep1 {r k : Int} {P : Ent → Prop} (h1 : 0 ≤ k ∧ k ≤ 1000000) (q : ∀ a, P (.own a (intsD (List.replicate k.toNat r)))) : oRep (.lst [.int r]) (.int k) P := by
  refine o_rep ⟨by omega, by omega⟩ (by rw [List.length_singleton]; unfold sizeLine; omega) fun a => ?_
  rw [rep_one, show List.replicate k.toNat (D.int r) = (List.replicate k.toNat r).map D.int from List.map_replicate.symm]
  exact q a
theorem o_intB {b : Bool} {P : Ent → Prop} (k : P (.imm (.int (if b then 1 else 0)))) : cInt [.bl b] P := k
theorem kit_no {K : PySem.W.Frag} {C : Addr} {n : String} (z : PySem.W.isClsIn K C = true) (t : PySem.W.typeIn K (.ref C) = some (.type "type")) (h : PySem.W.subIn K (.type n) (.ref C) = some false) : PySem.W.kitOne K (.type n) (.ref C) = some false := by
  have z' : (PySem.W.clsIn K C).isSome = true := z
  show (if (Value.type n == Value.ref C) = true then some true else if ((PySem.W.clsIn K C).isSome && PySem.W.typeIn K (.ref C) == some (.type "type")) = true then PySem.W.subIn K (.type n) (.ref C) else none) = some false
  rw [if_neg (show ¬ ((Value.type n == Value.ref C) = true) from fun q => by cases q), z', t, if_pos (by decide +kernel), h]
theorem nofst {K : PySem.W.Frag} {C : Addr} {n : String} {d : D} (hn : ∀ C fs, d ≠ .obj C fs) (ht : tyOfD d = some (.type n)) (h : PySem.W.subIn K (.type n) (.ref C) = some false) : NoFst K C d :=
  ⟨fun C' fs e => absurd e (hn C' fs), _, ht, by unfold PySem.W.notFirst; rw [h]; simp⟩
theorem sub_tuple {K : PySem.W.Frag} {C : Addr} : PySem.W.subIn K (.type "tuple") (.ref C) = some false := rfl
theorem sub_list {K : PySem.W.Frag} {C : Addr} : PySem.W.subIn K (.type "list") (.ref C) = some false := rfl
theorem sub_str {K : PySem.W.Frag} {C : Addr} : PySem.W.subIn K (.type "str") (.ref C) = some false := rfl
theorem sub_int {K : PySem.W.Frag} {C : Addr} : PySem.W.subIn K (.type "int") (.ref C) = some false := rfl
theorem sub_bool {K : PySem.W.Frag} {C : Addr} : PySem.W.subIn K (.type "bool") (.ref C) = some false := rfl
theorem sub_none {K : PySem.W.Frag} {C : Addr} : PySem.W.subIn K (.type "NoneType") (.ref C) = some false := rfl
theorem kit_self {K : PySem.W.Frag} {t : Value} : PySem.W.kitOne K t t = some true := by
  unfold PySem.W.kitOne
  rw [if_pos (by simp)]
theorem o_neIs {a b : List Int} {P : Ent → Prop} (h1 : a.length ≤ 1000000) (h2 : b.length ≤ 1000000) (k : P (.imm (.bl (!decide (a = b))))) : oNe (intsD a) (intsD b) P := by
  refine ⟨intsOk 39 h1, intsOk 39 h2, ?_⟩
  rw [show eqD (intsD a) (intsD b) = decide (a = b) from eqvAll_ints a b]
  exact k
/-! a, b = x, y -/
def sPar (i j : Nat) (fa : EvA) : SvF := fun e d => fa e fun rs e1 => ∃ c1 c2 e2, frzs e1 rs = some ([c1, c2], e2) ∧ i < e2.length ∧ j < e2.length ∧ d.nx ((e2.set i (some (.imm c1))).set j (some (.imm c2)))
theorem s_par {i j : Nat} {fa : EvA} {e : En} {d : Ed} (k : fa e fun rs e1 => ∃ c1 c2 e2, frzs e1 rs = some ([c1, c2], e2) ∧ i < e2.length ∧ j < e2.length ∧ d.nx ((e2.set i (some (.imm c1))).set j (some (.imm c2)))) : sPar i j fa e d := k
theorem x_par {i j : Nat} {e1 e2 : En} {rs : List Rv} {c1 c2 : D} {R : En → Prop} (h : frzs e1 rs = some ([c1, c2], e2)) (hi : Nat.blt i e2.length = true) (hj : Nat.blt j e2.length = true) (k : R ((e2.set i (some (.imm c1))).set j (some (.imm c2)))) :
    ∃ c1 c2 e2, frzs e1 rs = some ([c1, c2], e2) ∧ i < e2.length ∧ j < e2.length ∧ R ((e2.set i (some (.imm c1))).set j (some (.imm c2))) := ⟨c1, c2, e2, h, Nat.le_of_ble_eq_true hi, Nat.le_of_ble_eq_true hj, k⟩
theorem ds_par {X : Cx} {F : Fr} {i j : Nat} {x y : Str} {a b : Expr} {fa : EvA} {px py pt pos : Pos} {kt k2 pt2} (hc : X.calm = true) (hN : X.N.Nodup) (hi : X.N[i]? = some x) (hj : X.N[j]? = some y) (hij : i ≠ j)
    (hx : X.env.scope.names.lookup x = some .local) (hy : X.env.scope.names.lookup y = some .local) (ha : DA X F [a, b] fa) (hw : swappedStores [.Tuple [.Name x px, .Name y py] kt pt] (.Tuple [a, b] k2 pt2) X.env = pure (some [x, y]) := by rfl)
    (hs : swapsWithSole [.Tuple [.Name x px, .Name y py] kt pt] (.Tuple [a, b] k2 pt2) pos.line X.env = pure false := by rfl) : DS X F (.Assign [.Tuple [.Name x px, .Name y py] kt pt] (.Tuple [a, b] k2 pt2) pos) (sPar i j fa) := by
  obtain ⟨t, p, d⟩ := ha
  refine ⟨_, ps_par hc hN hi hj hij hx hy p hw hs, fun σ I H e ps dd D hp s h k => ?_⟩
  refine d σ I H e ps _ _ s h fun xs rs e1 I1 H1 h1 hl s1 => ?_
  obtain ⟨c1, c2, e2, hf, li, lj, hnx⟩ := h1
  obtain ⟨I2, _, s2, rr⟩ := s1.frzs hl hf
  cases rr with
  | cons r1 rr => cases rr with
    | cons r2 rr =>
      cases rr
      refine ⟨_, _, rfl, ?_⟩
      have s3 := (s2.pushI r1).asgE (t := .imm c1) (i := i) (hp.no _) li
      have s4 := (s3.pushI r2).asgE (t := .imm c2) (i := j) (hp.no _) (by rw [List.length_set]; exact lj)
      exact k.nx _ I2 H1 _ hnx s4
/-! ### name op= int; all(list of truths) -/
section
variable {X : Cx} {F : Fr} {i : Nat} {x : Str} {b : Expr} {f2 : EvF} {pos pos' : Pos} {op : Operator} {r : R2} {g : DO2}
theorem ds_aug (ho : PIp X op r) (hd : DOp F.K r g) (h2 : DE X F b f2) (hN : X.N.Nodup) (hi : X.N[i]? = some x) (hl : Loc X.env.scope x) (hf : X.fn x = true ∨ X.env.scope.names.lookup x = some .local := by first | exact .inl rfl | exact .inr rfl | assumption) :
    DS X F (.AugAssign (.Name x pos') op b pos) (sSet i (eOp g (eVar i) f2)) := by
  obtain ⟨t2, p2, d2⟩ := h2
  refine ⟨_, ps_aug hN hi hl p2 ho hf, fun σ I H e ps d D hp s h k => ?_⟩
  have z := DT.op hd (DT.var (F := F) (i := i)) d2
  refine z σ I H e ps _ _ s h fun x r e1 I1 H1 h1 s1 => ?_
  obtain ⟨e2, ha, h2⟩ := h1
  obtain ⟨I2, s2⟩ := s1.asg (hp.no _) ha
  exact k.nx _ I2 H1 e2 h2 s2
/-- the sum of two ints alone -/
def oAddI : DO2
  | .int i, .int j, P => P (.imm (.int (i + j)))
  | _, _, _ => False
theorem o_addII {i j : Int} {P : Ent → Prop} (k : P (.imm (.int (i + j)))) : oAddI (.int i) (.int j) P := k
theorem dop_augSub {K : PySem.W.Frag} : DOp K (ipI fun i j => i - j) oSub := fun I H x y c d P Q s v1 v2 h k => by
  cases c <;> cases d <;> first | exact False.elim h | exact ⟨_, _, v1.int, v2.int, k.imm s h (.int _)⟩
theorem dop_augAdd {K : PySem.W.Frag} : DOp K (ipI fun i j => i + j) oAddI := fun I H x y c d P Q s v1 v2 h k => by
  cases c <;> cases d <;> first | exact False.elim h | exact ⟨_, _, v1.int, v2.int, k.imm s h (.int _)⟩
end
theorem bools_of {K : PySem.W.Frag} {I : Hp} : ∀ {xs : List V} {bs : List Bool}, Reps K I xs (bs.map D.bl) → xs = bs.map V.bl
  | _, [], r => by cases r; rfl
  | _, b :: bs, r => by
    cases r with
    | cons h t =>
      cases h
      rw [bools_of t]
      rfl
def cAll : DON := fun ds P => ∃ bs : List Bool, ds = [.lst (bs.map D.bl)] ∧ P (.imm (.bl (bs.all id)))
theorem dcr_all {X : Cx} (hc : X.calm = true) : DCR X (.builtin "all") cAll := ⟨_, cr_all hc, fun I H xs ds P Q s v h k => by
  obtain ⟨bs, rfl, p⟩ := h
  obtain ⟨x, rfl, w⟩ := v.one
  obtain ⟨a, ys, rfl, ha, r⟩ := w.lst s
  have e := bools_of r
  subst e
  exact ⟨a, bs, rfl, SqL.of ha, k.imm s p (.bl _)⟩⟩
/-! ### the exception that a suite holds by a name -/
def rIsD (K : PySem.W.Frag) (D a dd : Addr) : List V → Hp → VK → Prop := fun xs H Q => ∃ (c : V) (cv : Value) (b : Bool) (fs : List (Str × V)), xs = [.ref a, c] ∧ (∀ u, RelV c u → u = cv) ∧ ExcC K D ∧ PySem.W.kitOne K (.ref D) cv = some b ∧ H dd = some (.xd fs) ∧ Q (.bl b) H
theorem clsSome {K : PySem.W.Frag} {C : Addr} (h : PySem.W.hasDictIn K C = true) : (PySem.W.clsIn K C).isSome = true := by
  obtain ⟨cd, hc, _⟩ := PySem.W.any_some h
  rw [hc]; rfl
theorem call_isD {X : Cx} {a D dd : Addr} {oe : Obj} {pn : List (Addr × Obj)} (hz : Zc (.ref D) (some dd) oe) (hf : ∃ vs, oe.data = .fields vs) : CallR (X.suite a ((a, oe) :: pn)) (.builtin "isinstance") (rIsD X.K D a dd) := by
  intro pins s σ H xs us Q I r h
  obtain ⟨c, cv, b, fs, rfl, hcv, C, e, ea, q⟩ := h
  cases r with
  | cons rx rr =>
    cases rr with
    | cons rt rr =>
      cases rr
      cases rx
      have ec := hcv _ rt
      subst ec
      obtain ⟨hget, _⟩ := I.pin (a, oe) (List.mem_append.mpr (.inl List.mem_cons_self))
      obtain ⟨vs, hv⟩ := hf
      have hx : ObjOk X.prog X.w H s.heap dd (.xd fs) := I.hok dd _ ea
      obtain ⟨mA, hns, hr⟩ := hx
      obtain ⟨od, ho, hl⟩ := lookIn_ns hns
      have J : PySem.W.InstAt s.heap a oe D (some od) := ⟨hget, hz.1, by unfold PySem.W.notCls; rw [hv] <;> rfl, by rw [hz.2]; exact ho⟩
      exact PySem.W.kia_one (PySem.W.kitx_exc (clsSome C.hd) C.hg C.hk C.hs C.ha C.hn C.ht C.hm) I.kIn J e (fun z => nomatch z) fun tk => ⟨.bl b, H, I.kept (t' := tk) fun _ _ z => z, rfl, q⟩
theorem kit_ve {K : PySem.W.Frag} {C : Addr} (h : PySem.W.subIn K (.ref C) (.type "ValueError") = some true) : PySem.W.kitOne K (.ref C) (.type "ValueError") = some true := by
  show (if (Value.ref C == Value.type "ValueError") = true then some true else if PySem.W.kitMeta "ValueError" = true then PySem.W.subIn K (.ref C) (.type "ValueError") else none) = some true
  rw [if_neg (show ¬ ((Value.ref C == Value.type "ValueError") = true) from fun q => by cases q), if_pos (by decide +kernel), h]
theorem kit_xx {K : PySem.W.Frag} {C D : Addr} {b : Bool} (z : PySem.W.isClsIn K D = true) (t : PySem.W.typeIn K (.ref D) = some (.type "type")) (hs : PySem.W.subIn K (.ref D) (.ref D) = some true) (h : PySem.W.subIn K (.ref C) (.ref D) = some b) : PySem.W.kitOne K (.ref C) (.ref D) = some b := by
  have z' : (PySem.W.clsIn K D).isSome = true := z
  show (if (Value.ref C == Value.ref D) = true then some true else if ((PySem.W.clsIn K D).isSome && PySem.W.typeIn K (.ref D) == some (.type "type")) = true then PySem.W.subIn K (.ref C) (.ref D) else none) = some b
  by_cases c : C = D
  · subst c
    rw [if_pos (by simp)]
    exact hs.symm.trans h
  · rw [if_neg (show ¬ ((Value.ref C == Value.ref D) = true) from fun q => c (Value.ref.inj (beq_iff_eq.mp q))), z', t, if_pos (by decide +kernel), h]
structure XHeld (F : Fr) (dd : Addr) (z : D) : Prop where
  at_ : ∃ x, F.H0 dd = some (.xd [(("value" : Str), x)]) ∧ Rep F.K F.I0 x z
  out : dd ∉ adr F.e0
theorem XHeld.now {F : Fr} {dd : Addr} {z : D} {σ : L2.St} {I H : Hp} {e : En} {ps : Tm} (h : XHeld F dd z) (s : ST F σ I H e ps) : ∃ x, H dd = some (.xd [(("value" : Str), x)]) ∧ Rep F.K I x z := by
  obtain ⟨x, h1, h2⟩ := h.at_
  exact ⟨x, s.base.keep _ _ h1 h.out, h2.mono s.base.imm⟩
/-- no own thing is an exception's dict -/
theorem EntR.noXd {K : PySem.W.Frag} {I H : Hp} {x : V} {t : Ent} (h : EntR K I H x t) {a : Addr} (ha : a ∈ t.adr) {fs : List (Str × V)} : H a ≠ some (.xd fs) := by
  cases t with
  | imm d => simp at ha
  | own b d =>
    obtain ⟨_, h1, h2⟩ := h
    simp at ha
    subst ha
    cases d with
    | lst ds => obtain ⟨xs, e, _⟩ := h2; rw [e]; intro z; cases z
    | dic es => obtain ⟨xs, e, _⟩ := h2; rw [e]; intro z; cases z
    | dik es => obtain ⟨xs, e, _⟩ := h2; rw [e]; intro z; cases z
    | obj C es => obtain ⟨dx, xs, e, _⟩ := h2; rw [e]; intro z; cases z
    | _ => exact False.elim h2
  | raw b xs =>
    obtain ⟨_, h1, h2⟩ := h
    simp at ha
    subst ha
    rw [h2]; intro z; cases z
  | hand p c n =>
    obtain ⟨_, h1, h2, h3⟩ := h
    simp at ha
    rcases ha with rfl | rfl
    · obtain ⟨_, e⟩ := h3.tokp; rw [e]; intro z; cases z
    · obtain ⟨_, e⟩ := h3.tokc; rw [e]; intro z; cases z
theorem EnvR.noXd {K : PySem.W.Frag} {I H : Hp} {σ : L2.St} {e : En} (h : EnvR K I H σ e) {a : Addr} {fs : List (Str × V)} (q : H a = some (.xd fs)) : a ∉ adr e := fun ha => by
  obtain ⟨i, t, e1, e2⟩ := mem_adr.mp ha
  obtain ⟨x, _, r⟩ := h.at_ i t e1
  exact r.noXd e2 q
/-- n.value -/
def eXv (K : PySem.W.Frag) (i : Nat) (a C : Addr) (z : D) : EvF := fun e P => e[i]? = some (some (.imm (.cls a))) ∧ XfC K C ∧ PySem.W.findIn K (.ref C) "value" = some none ∧ P (.im z) e
theorem s_xv {K : PySem.W.Frag} {i : Nat} {a C : Addr} {z : D} {e : En} {P : Rv → En → Prop} (h : e[i]? = some (some (.imm (.cls a)))) (T : XfC K C) (no : PySem.W.findIn K (.ref C) "value" = some none) (k : P (.im z) e) : eXv K i a C z e P := ⟨h, T, no, k⟩
/-- isinstance(n, T) -/
def eXis (K : PySem.W.Frag) (i : Nat) (a C : Addr) (f : EvF) : EvF := fun e P => e[i]? = some (some (.imm (.cls a))) ∧ ExcC K C ∧ f e fun r e1 => ∃ c u b, r = .im c ∧ clOfD c = some u ∧ PySem.W.kitOne K (.ref C) u = some b ∧ P (.im (.bl b)) e1
theorem s_xis {K : PySem.W.Frag} {i : Nat} {a C : Addr} {f : EvF} {e : En} {P : Rv → En → Prop} (h : e[i]? = some (some (.imm (.cls a)))) (T : ExcC K C) (k : f e fun r e1 => ∃ c u b, r = .im c ∧ clOfD c = some u ∧ PySem.W.kitOne K (.ref C) u = some b ∧ P (.im (.bl b)) e1) : eXis K i a C f e P := ⟨h, T, k⟩
theorem x_xis {R : Bool → Prop} {K : PySem.W.Frag} {C : Addr} {c : D} {u : Value} {b : Bool} (h : clOfD c = some u) (h2 : PySem.W.kitOne K (.ref C) u = some b) (k : R b) : ∃ c' u b, Rv.im c = .im c' ∧ clOfD c' = some u ∧ PySem.W.kitOne K (.ref C) u = some b ∧ R b := ⟨c, u, b, rfl, h, h2, k⟩
section
variable {X : Cx} {F : Fr} {a C dd : Addr} {oe : Obj} {pn : List (Addr × Obj)} {z : D} {i : Nat} {n : Str} {p1 p2 p3 pos : Pos}
theorem de_xv (hz : Zc (.ref C) (some dd) oe) (hf : ∃ vs, oe.data = .fields vs) (hh : XHeld F dd z) (hN : X.N[i]? = some n) (hv : Vis X.env.scope n) (hd : (n == ("__debug__" : Str)) = false := by decide) (hcd : (n == ("__classdict__" : Str)) = false := by decide)
    (hb : attributeBase (.Name n p1) "value" X.env (eval (.Name n p1) X.env) = eval (.Name n p1) X.env := by rfl) : DE (X.suite a ((a, oe) :: pn)) F (.Attribute (.Name n p1) "value" p3) (eXv X.K i a C z) := by
  refine ⟨fun σ H Q => (XfC X.K C ∧ PySem.W.findIn X.K (.ref C) "value" = some none) ∧ tXf a (.ref C) (some dd) C "value" (tVar i) σ H Q, ⟨fun pins s σ H Q I h => (pe_xf h.1.1 h.1.2 hz hf (pe_var hN hv hd hcd) hb).run pins s σ H Q I h.2⟩, fun σ I H e ps P Q s h k => ?_⟩
  obtain ⟨h1, h2, h3, h4⟩ := h
  obtain ⟨y, e1, e2⟩ := s.slot h1
  cases e2
  obtain ⟨x, q1, q2⟩ := hh.now s
  exact ⟨⟨h2, h3⟩, .ref a, e1, rfl, rfl, dd, _, x, rfl, q1, rfl, k _ _ _ _ _ h4 (s.pushI q2)⟩
theorem de_xis {f : EvF} {ex : Expr} (hz : Zc (.ref C) (some dd) oe) (hf : ∃ vs, oe.data = .fields vs) (hh : XHeld F dd z) (hN : X.N[i]? = some n) (hv : Vis X.env.scope n) (h2 : DE (X.suite a ((a, oe) :: pn)) F ex f) (hg : Gl X "isinstance") (hm : X.mg "isinstance" = none)
    (hd : (n == ("__debug__" : Str)) = false := by decide) (hcd : (n == ("__classdict__" : Str)) = false := by decide)
    (hs : starEach (.Name n p1 :: [ex]) X.env = (false, eval (.Name n p1) X.env) :: starEach [ex] X.env := by rfl) (hs2 : starEach [ex] X.env = (false, eval ex X.env) :: starEach [] X.env := by rfl) (hpl : (backTo pos (starEach [ex] X.env)).any (·.1) = false := by rfl) :
    DE (X.suite a ((a, oe) :: pn)) F (.Call (.Name "isinstance" p2) [.Name n p1, ex] [] pos) (eXis X.K i a C f) := by
  obtain ⟨t2, q2, d2⟩ := h2
  refine ⟨_, pe_callB (call_isD hz hf) hg hm (by rfl) (pa_cons (pe_var hN hv hd hcd) (pa_cons q2 pa_nil hs2) hs) (by decide) (by decide) hs hpl, fun σ I H e ps P Q s h k => ?_⟩
  obtain ⟨h1, hC, h2⟩ := h
  obtain ⟨y, e1, e2⟩ := s.slot h1
  have e3 := e2
  cases e3
  refine ⟨.ref a, e1, ?_⟩
  refine d2 σ I H e _ _ _ (s.pushI e2) h2 fun x r e1 I1 H1 hr s1 => ?_
  obtain ⟨c, u, b, rfl, hu, hk, hP⟩ := hr
  have rx : Rep F.K I1 x c := ST.temp (t := .imm c) (qs := []) s1
  obtain ⟨v, w1, w2⟩ := hh.now s1
  refine ⟨x, u, b, _, rfl, fun u' hr' => ?_, hC, hk, w1, k _ _ _ _ _ hP (s1.weak.weak.pushI (.bl b))⟩
  cases c with
  | ty m => cases rx; cases hu; cases hr'; rfl
  | cls m => cases rx; cases hu; cases hr'; rfl
  | _ => cases hu
end
/-! ### try: body, except C as n: suite -/
def sTryG (K : PySem.W.Frag) (C : Addr) (i : Nat) (f : Fr → SvF) (g : Addr → Addr → D → SvF) : SvF := fun e d => ∀ F' : Fr, F'.PX = (fun C' z e' => PySem.W.exmOne K (.ref C') (.ref C) = some true ∧ e'[i]? = some none ∧
  ∀ a, g a C' z (e'.set i (some (.imm (.cls a)))) { nx := fun e1 => d.nx (e1.set i none), rt := d.rt, bk := fun e1 => d.bk (e1.set i none), ct := fun e1 => d.ct (e1.set i none) }) → f F' e d
theorem s_tryG {K : PySem.W.Frag} {C : Addr} {i : Nat} {f : Fr → SvF} {g : Addr → Addr → D → SvF} {e : En} {d : Ed} (k : ∀ F' : Fr, F'.PX = (fun C' z e' => PySem.W.exmOne K (.ref C') (.ref C) = some true ∧ e'[i]? = some none ∧
  ∀ a, g a C' z (e'.set i (some (.imm (.cls a)))) { nx := fun e1 => d.nx (e1.set i none), rt := d.rt, bk := fun e1 => d.bk (e1.set i none), ct := fun e1 => d.ct (e1.set i none) }) → f F' e d) : sTryG K C i f g e d := k
section
variable {F : Fr} {σ : L2.St} {I H : Hp} {e : En} {ps : Tm}
theorem ST.wipe1 {i : Nat} {y : Option V} (s : ST F σ I H e ps) (hp : Imms ps) : ST F (σ.set i y) I H (e.set i none) ps where
  sub := s.sub
  len := by rw [List.length_set, List.length_set]; exact s.len
  env := by
    by_cases hi : i < e.length
    · have z := s.env.setN (i := i) (y := y)
      rw [List.set_append_left _ _ (by rw [← s.len]; exact hi), List.set_append_left _ _ hi] at z
      exact z
    · rw [List.set_eq_of_length_le (by rw [← s.len]; omega), List.set_eq_of_length_le (by omega)]
      exact s.env
  ali := fun p m j q => by
    obtain ⟨d, hd⟩ := hp p m
    rw [hd] at q
    cases q
  base := by
    have b := s.base
    refine ⟨b.imm, b.keep, fun x hx => b.own x ?_, b.new⟩
    obtain ⟨j, u, w, m⟩ := mem_adr.mp hx
    refine mem_adr.mpr ⟨j, u, ?_, m⟩
    by_cases hj : j < (e.set i none).length
    · rw [List.getElem?_append_left hj] at w
      have hj' : j < e.length := by rwa [List.length_set] at hj
      rw [List.getElem?_append_left hj']
      by_cases c : i = j
      · subst c; rw [List.getElem?_set_self hj'] at w; cases w
      · rw [List.getElem?_set_ne c] at w; exact w
    · rw [List.getElem?_append_right (by omega), List.length_set] at w
      rw [List.length_set] at hj
      rw [List.getElem?_append_right (by omega)]
      exact w
end
theorem ds_tryG {X : Cx} {F : Fr} {x n : Str} {C : Addr} {i : Nat} {body suite : List Stmt} {b₀ : Stmt} {np pos pos' : Pos} {f : Fr → SvF} {g : Addr → Addr → D → SvF}
    (hs : X.stack = X.env :: X.outer) (hf : X.env.frame = some X.env.locals) (hN : X.N.Nodup) (hi : X.N[i]? = some n) (hln : X.env.kindOf n = some .local) (hc : Names X x (.ref C))
    (hb : ∀ (pn : List (Addr × Obj)) (xe : Value → Shared → Prop) (F' : Fr), F'.K = X.K → Takes (X.tr pn xe) F'.W → FrOk F' → DSs (X.tr pn xe) F' body (f F'))
    (hg : ∀ (a C' dd : Addr) (oe : Obj) (pn : List (Addr × Obj)) (z : D) (F2 : Fr), Zc (.ref C') (some dd) oe → (∃ vs, oe.data = .fields vs) → F2.K = X.K → XHeld F2 dd z → DSs (X.suite a ((a, oe) :: pn)) F2 (b₀ :: suite) (g a C' z))
    (hK : F.K = X.K := by first | rfl | assumption) :
    DS X F (.Try body [.ExceptHandler (some (.Name x np)) (some n) (b₀ :: suite) pos'] [] [] pos) (sTryG X.K C i f g) := by
  let tb : WX → TS := fun W D σ H => ∃ (I : Hp) (e : En) (ps : Tm) (d : Ed) (F' : Fr), F'.K = X.K ∧ F'.W = W ∧ FrOk F' ∧ Imms ps ∧ ST F' σ I H e ps ∧ f F' e d ∧ EdR F' ps d D
  let ts : Addr → Value → Option Addr → TS := fun a cls d DD σ H => ∃ (C' dd : Addr) (z : D) (I : Hp) (e : En) (ps : Tm) (d' : Ed) (F2 : Fr), cls = .ref C' ∧ d = some dd ∧ F2.K = X.K ∧ XHeld F2 dd z ∧ Imms ps ∧ ST F2 σ I H e ps ∧ g a C' z e d' ∧ EdR F2 ps d' DD
  refine ⟨_, ps_try_as (tb := tb) (ts := ts) (Wout := fun _ _ _ _ => False) hs hf hN hi hln hc takes0 (fun W pn xe tk _ => ⟨fun pins s σ H D Iv h => ?_⟩) (fun a oe cls d pn hz hfl => ⟨fun pins s σ H D Iv h => ?_⟩), fun σ I H e ps d D hp s h k => ?_⟩
  · obtain ⟨I, e, ps, d, F', hk, rfl, fo, im, st, hf', ed⟩ := h
    obtain ⟨t, p, dts⟩ := hb pn xe F' hk tk fo
    exact p.run pins s σ H D Iv (dts σ I H e ps d D im st hf' ed)
  · obtain ⟨C', dd, z, I, e, ps, d', F2, rfl, rfl, hk2, hh, im, st, hg', ed⟩ := h
    obtain ⟨t, p, dts⟩ := hg a C' dd oe pn z F2 hz hfl hk2 hh
    exact p.run pins s σ H D Iv (dts σ I H e ps d' D im st hg' ed)
  · refine ⟨I, e, ps, d, frTry F.K e ps I H (wAs X.K (.ref C) i ts (fun _ _ _ _ => False) D) (fun C' z e' => PySem.W.exmOne X.K (.ref C') (.ref C) = some true ∧ e'[i]? = some none ∧
        ∀ a, g a C' z (e'.set i (some (.imm (.cls a)))) { nx := fun e1 => d.nx (e1.set i none), rt := d.rt, bk := fun e1 => d.bk (e1.set i none), ct := fun e1 => d.ct (e1.set i none) }), hK, rfl, ?_, hp, s.here, h _ rfl, ?_⟩
    · rintro σ' I' H' e' qs C' z x' dd s' ⟨te, hn, hz⟩ rx hx
      refine ⟨true, te, fun _ a ha => ?_, fun z => nomatch z⟩
      have s0 := s.rebase s'
      have s1 : ST F σ' I' H' e' [] := ST.weak (ps := []) (qs := qs) s0
      have s2 : ST F σ' I' H' e' ps := s1.imms fun p m => by
        obtain ⟨d', e1, r⟩ := s.imreps hp p m
        exact ⟨d', e1, r.mono s'.base.imm⟩
      have s3 := (s2.pushI (x := .ref a) (d := .cls a) (.cls a)).asgE (i := i) (t := .imm (.cls a)) (hp.no _) (List.getElem?_eq_some_iff.mp hn).1
      have s4 : ST (frTry F.K (e'.set i (some (.imm (.cls a)))) ps I' H' F.W F.PX) (σ'.set i (some (.ref a))) I' H' (e'.set i (some (.imm (.cls a)))) ps := s3.here
      have hd' : dd ∉ adr (e'.set i (some (.imm (.cls a))) ++ tn ps) := s3.env.noXd hx
      refine ⟨C', dd, z, I', _, ps, _, frTry F.K (e'.set i (some (.imm (.cls a)))) ps I' H' F.W F.PX, rfl, rfl, hK, ⟨⟨x', hx, rx⟩, hd'⟩, hp, s4, hz a, ?_⟩
      have back : ∀ {σ'' I'' H'' e''}, ST (frTry F.K (e'.set i (some (.imm (.cls a)))) ps I' H' F.W F.PX) σ'' I'' H'' e'' ps → ST F (σ''.set i none) I'' H'' (e''.set i none) ps := fun s5 => (s3.rebase s5).wipe1 hp
      exact ⟨fun σ'' I'' H'' e'' h' s' => k.nx _ I'' H'' _ h' (back s'), fun x r σ'' I'' H'' e'' h' s' => k.rt x r σ'' I'' H'' e'' h' (s3.rebase s'), fun σ'' I'' H'' e'' h' s' => k.bk _ I'' H'' _ h' (back s'), fun σ'' I'' H'' e'' h' s' => k.ct _ I'' H'' _ h' (back s')⟩
    · exact ⟨fun σ' I' H' e' h' s' => k.nx σ' I' H' e' h' (s.rebase s'), fun x r σ' I' H' e' h' s' => k.rt x r σ' I' H' e' h' (s.rebase s'), fun σ' I' H' e' h' s' => k.bk σ' I' H' e' h' (s.rebase s'), fun σ' I' H' e' h' s' => k.ct σ' I' H' e' h' (s.rebase s')⟩
/-! ### an object under construction: self.f = e; a class whose __init__ is a def over data -/
def putE (f : Str) (c : D) : List (Str × D) → List (Str × D)
  | [] => [(f, c)]
  | (g, x) :: r => if g = f then (g, c) :: r else (g, x) :: putE f c r
theorem putE_rep {K : PySem.W.Frag} {I : Hp} {f : Str} {y : V} {c : D} (r : Rep K I y c) : ∀ {fs : List (Str × V)} {es : List (Str × D)}, fs.map (·.1) = es.map (·.1) → Reps K I (fs.map (·.2)) (es.map (·.2)) →
    (putF f y fs).map (·.1) = (putE f c es).map (·.1) ∧ Reps K I ((putF f y fs).map (·.2)) ((putE f c es).map (·.2))
  | [], [], _, _ => ⟨rfl, .cons r .nil⟩
  | [], _ :: _, m, _ => by cases m
  | _ :: _, [], m, _ => by cases m
  | (g, x) :: fs, (g', d) :: es, m, q => by
    rw [List.map_cons, List.map_cons] at m
    injection m with m1 m2
    have m1' : g = g' := m1
    subst m1'
    cases q with
    | cons q1 q2 =>
      unfold putF putE
      by_cases c : g = f
      · rw [if_pos c, if_pos c]
        exact ⟨by rw [List.map_cons, List.map_cons, m2], .cons r q2⟩
      · rw [if_neg c, if_neg c]
        obtain ⟨z1, z2⟩ := putE_rep r m2 q2
        exact ⟨by rw [List.map_cons, List.map_cons, z1], .cons q1 z2⟩
def sFSet (C : Addr) (i : Nat) (f : Str) (fv : EvF) : SvF := fun e d => fv e fun rv e1 => ∃ c e2 a fs, frz e1 rv = some (c, e2) ∧ e2[i]? = some (some (.own a (.obj C fs))) ∧ fs.length < 1000 ∧ d.nx (e2.set i (some (.own a (.obj C (putE f c fs)))))
theorem s_fset {C : Addr} {i : Nat} {f : Str} {fv : EvF} {e : En} {d : Ed} (k : fv e fun rv e1 => ∃ c e2 a fs, frz e1 rv = some (c, e2) ∧ e2[i]? = some (some (.own a (.obj C fs))) ∧ fs.length < 1000 ∧ d.nx (e2.set i (some (.own a (.obj C (putE f c fs)))))) : sFSet C i f fv e d := k
theorem x_fset {R : En → Prop} {C : Addr} {i : Nat} {f : Str} {e1 e2 : En} {rv : Rv} {c : D} {a : Addr} {fs : List (Str × D)} (h1 : frz e1 rv = some (c, e2)) (h2 : e2[i]? = some (some (.own a (.obj C fs)))) (h3 : Nat.blt fs.length 1000 = true) (k : R (e2.set i (some (.own a (.obj C (putE f c fs)))))) :
    ∃ c e2 a fs, frz e1 rv = some (c, e2) ∧ e2[i]? = some (some (.own a (.obj C fs))) ∧ fs.length < 1000 ∧ R (e2.set i (some (.own a (.obj C (putE f c fs))))) := ⟨c, e2, a, fs, h1, h2, Nat.le_of_ble_eq_true h3, k⟩
section
variable {X : Cx} {F : Fr} {i : Nat} {n f : Str} {p pos pos' : Pos} {vx : Expr} {fv : EvF} {C : Addr}
theorem ds_fset (ht : PE X (.Name n p) (tVar i)) (hc : Cls X.K C) (hn : NoAttr X.K C f) (hv : DE X F vx fv) (hs : swapsWith vx (some (.Attribute (.Name n p) f pos')) pos.line X.env = pure false := by rfl) : DS X F (.Assign [.Attribute (.Name n p) f pos'] vx pos) (sFSet C i f fv) := by
  obtain ⟨tw, pw, dw⟩ := hv
  refine ⟨_, ps_fld ht pw hs, fun σ I H e ps d D hp s h k => ?_⟩
  refine dw σ I H e ps _ _ s h fun v rv e1 I1 H1 h1 s1 => ?_
  obtain ⟨c, e2, a, fs, hf, he, hl, hnx⟩ := h1
  obtain ⟨I2, _, s2⟩ := s1.frz hf
  have rc : Rep F.K I2 v c := ST.temp (t := .imm c) (qs := []) s2
  obtain ⟨y, y1, rfl, _, dx, gs, hx, mm, rr⟩ := s2.slot he
  obtain ⟨z1, z2⟩ := putE_rep (f := f) rc mm rr
  have hlen : gs.length = fs.length := by
    have := congrArg List.length mm
    rwa [List.length_map, List.length_map] at this
  refine ⟨.ref a, y1, a, C, dx, gs, rfl, hx, hc, hn, by omega, ?_⟩
  exact k.nx _ I2 _ _ hnx ((s2.weak).mut he ⟨dx, _, upd_same, z1, z2⟩)
end
/-- the promise of an __init__, from that of its class -/
def conInit (C : Addr) (con : Con) : Con := fun es P PX => ∃ a es0, es = .own a (.obj C []) :: es0 ∧ con es0 (fun r es0' => ∃ fs, r = .imm (.obj C fs) ∧ P (.imm .non) (.own a (.obj C fs) :: es0')) (fun X v es0' => ∀ fs, PX X v (.own a (.obj C fs) :: es0'))
theorem EnvR.cons' {K : PySem.W.Frag} {I H : Hp} {σ : L2.St} {e : En} {x : V} {t : Ent} (h : EnvR K I H σ e) (r : EntR K I H x t) (n : ∀ a ∈ t.adr, a ∉ adr e) : EnvR K I H (some x :: σ) (some t :: e) where
  len := by rw [List.length_cons, List.length_cons, h.len]
  at_ := fun i u q => by
    cases i with
    | zero => simp at q; subst q; exact ⟨x, rfl, r⟩
    | succ i =>
      obtain ⟨y, e1, e2⟩ := h.at_ i u (by simpa using q)
      exact ⟨y, by simpa using e1, e2⟩
  sep := fun i j u v a q1 q2 m1 m2 => by
    cases i with
    | zero =>
      cases j with
      | zero => rfl
      | succ j =>
        simp at q1
        subst q1
        exact absurd (mem_adr.mpr ⟨j, v, by simpa using q2, m2⟩) (n a m1)
    | succ i =>
      cases j with
      | zero =>
        simp at q2
        subst q2
        exact absurd (mem_adr.mpr ⟨i, u, by simpa using q1, m1⟩) (n a m2)
      | succ j => rw [h.sep i j u v a (by simpa using q1) (by simpa using q2) m1 m2]
theorem EnvR.tail {K : PySem.W.Frag} {I H : Hp} {σ : L2.St} {e : En} {x : Option V} {t : Option Ent} (h : EnvR K I H (x :: σ) (t :: e)) : EnvR K I H σ e where
  len := by have := h.len; simpa using this
  at_ := fun i u q => by
    obtain ⟨y, e1, e2⟩ := h.at_ (i + 1) u (by simpa using q)
    exact ⟨y, by simpa using e1, e2⟩
  sep := fun i j u v a q1 q2 m1 m2 => by
    have := h.sep (i + 1) (j + 1) u v a (by simpa using q1) (by simpa using q2) m1 m2
    omega
theorem adr_cons {t : Ent} {e : En} {a : Addr} : a ∈ adr (some t :: e) ↔ a ∈ t.adr ∨ a ∈ adr e := by
  unfold adr
  rw [List.flatMap_cons, List.mem_append]
/-- what comes of a class's promise: an object of the class, or an error -/
def MonoC (C : Addr) (con : Con) : Prop := ∀ (es : List Ent) (P P' : Ent → List Ent → Prop) (PX PX' : Addr → D → List Ent → Prop), (∀ fs es', P (.imm (.obj C fs)) es' → P' (.imm (.obj C fs)) es') → (∀ X v es', PX X v es' → PX' X v es') → con es P PX → con es P' PX'
/-- a class whose __init__ keeps its promise -/
theorem mkD_own {K : PySem.W.Frag} {C : Addr} {con : Con} (hm : MonoC C con) : MkD K C (spD K (conInit C con)) con := by
  intro vs H Q E hsp x dx hx hdx hne
  obtain ⟨I, es, P, PX, sub, env, hc, kq, ke⟩ := hsp
  have hxd : (upd H dx (.own x)) x = none := by rw [upd_ne (Ne.symm hne)]; exact hx
  have le : Le H (upd (upd H dx (.own x)) x (.ins C dx [])) := (Le.new hdx).trans (Le.new hxd)
  have sub2 : Sub I (upd (upd H dx (.own x)) x (.ins C dx [])) := fun b o q => le b o (sub b o q)
  have ixn : I x = none := sub.none hx
  have env2 : EnvR K I (upd (upd H dx (.own x)) x (.ins C dx [])) (vs.map some) (es.map some) := env.grow Le.refl fun a ha => ⟨(env.has ha).2, fun o q => le a o q⟩
  have fresh : x ∉ adr (es.map some) := fun z => by
    obtain ⟨⟨o, q, _⟩, _⟩ := env.has z
    rw [hx] at q; cases q
  have none_of : ∀ {b : Addr}, (upd (upd H dx (.own x)) x (.ins C dx [])) b = none → H b = none := fun {b} q => by
    cases z : H b with
    | none => rfl
    | some o => rw [le _ _ z] at q; cases q
  refine ⟨I, .own x (.obj C []) :: es, fun r es' => r = .imm .non ∧ ∃ fs es0', es' = .own x (.obj C fs) :: es0' ∧ P (.imm (.obj C fs)) es0', fun X v es' => ∃ fs es0', es' = .own x (.obj C fs) :: es0' ∧ PX X v es0', sub2, ?_, ?_, ?_, ?_⟩
  · exact env2.cons' ⟨rfl, ixn, dx, [], upd_same, rfl, .nil⟩ fun a ha => by simp at ha; subst ha; exact fresh
  · exact ⟨x, es, rfl, hm es P _ PX _ (fun fs es' hp => ⟨fs, rfl, rfl, fs, es', rfl, hp⟩) (fun X v es' hp fs => ⟨fs, es', rfl, hp⟩) hc⟩
  · rintro r es' y I' H' ⟨rfl, fs, es0', rfl, hP⟩ sub' env' st
    have ll : es0'.length = vs.length := by
      have := env'.len
      simp only [List.length_append, List.length_map, List.length_cons, List.length_nil] at this
      omega
    have hy : y = .non := by
      obtain ⟨z, z1, z2⟩ := env'.at_ (es0'.length + 1) (.imm .non) (by simp)
      rw [ll] at z1
      simp at z1
      cases z2
      exact z1
    obtain ⟨z, z1, rfl, i1, dx2, gs, h2, mm, rr⟩ := env'.at_ 0 (.own x (.obj C fs)) rfl
    have out : ∀ a, a ∈ adr (es0'.map some) → a ≠ x := fun a ha e => by
      subst e
      obtain ⟨j, u, w, m⟩ := mem_adr.mp ha
      have lj := (List.getElem?_eq_some_iff.mp w).1
      have := env'.sep 0 (j + 1) (.own a (.obj C fs)) u a rfl (by
        rw [List.map_cons, List.cons_append, List.getElem?_cons_succ, List.getElem?_append_left lj]
        exact w) (by simp) m
      omega
    have le2 : Le I' (upd I' x (.ins C dx2 gs)) := Le.new i1
    have sub3 : Sub (upd I' x (.ins C dx2 gs)) H' := fun b o q => by
      by_cases c : b = x
      · subst c; rw [upd_same] at q; cases q; exact h2
      · rw [upd_ne c] at q; exact sub' b o q
    have e1 : EnvR K I' H' (vs.map some) (es0'.map some) := EnvR.pre (by rw [List.length_map, List.length_map, ll]) (EnvR.tail env')
    have e2 : EnvR K (upd I' x (.ins C dx2 gs)) H' (vs.map some) (es0'.map some) := e1.grow le2 fun a ha => ⟨by rw [upd_ne (out a ha)]; exact (e1.has ha).2, fun o q => q⟩
    refine ⟨hy, kq (.imm (.obj C fs)) es0' (.ref x) _ H' hP sub3 (e2.push (t := .imm (.obj C fs)) (.obj upd_same mm (rr.mono le2)) fun a ha => by simp at ha) ⟨st.imm.trans le2, fun a o h n => ?_, fun a ha => ?_, fun a o h => ?_⟩⟩
    · refine st.keep a o (le a o h) fun z => ?_
      rw [List.map_cons, adr_cons] at z
      rcases z with z | z
      · simp at z; subst z; rw [hx] at h; cases h
      · exact n z
    · rcases mem_push.mp ha with ha | ⟨u, q, ha⟩
      · rcases st.own a (by rw [List.map_cons, List.cons_append, adr_cons]; exact .inr (mem_push.mpr (.inl ha))) with z | z
        · rw [List.map_cons, adr_cons] at z
          rcases z with z | z
          · simp at z; subst z; exact .inr hx
          · exact .inl z
        · exact .inr (none_of z)
      · cases q; simp at ha
    · by_cases c : a = x
      · subst c; exact .inr (.inr (.of hx))
      · rw [upd_ne c] at h
        rcases st.new a o h with z | z | z
        · exact .inl z
        · rw [List.map_cons, adr_cons] at z
          rcases z with z | z
          · simp at z; exact absurd z c
          · exact .inr (.inl z)
        · exact .inr (.inr fun u hu => z u (le a u hu))
  · rintro C' d es' y dd I' H' ⟨fs, es0', rfl, hP⟩ sub' env' st rx hd
    refine ke C' d es0' y dd I' H' hP sub' (EnvR.tail env') ⟨st.imm, fun a o h n => ?_, fun a ha => ?_, fun a o h => ?_⟩ rx hd
    · refine st.keep a o (le a o h) fun z => ?_
      rw [List.map_cons, adr_cons] at z
      rcases z with z | z
      · simp at z; subst z; rw [hx] at h; cases h
      · exact n z
    · rcases st.own a (by rw [List.map_cons, adr_cons]; exact .inr ha) with z | z
      · rw [List.map_cons, adr_cons] at z
        rcases z with z | z
        · simp at z; subst z; exact .inr hx
        · exact .inl z
      · exact .inr (none_of z)
    · rcases st.new a o h with z | z | z
      · exact .inl z
      · rw [List.map_cons, adr_cons] at z
        rcases z with z | z
        · simp at z; subst z; exact .inr (.inr (.of hx))
        · exact .inr (.inl z)
      · exact .inr (.inr fun u hu => z u (le a u hu))
/-! ### the plain law of courses -/
/-- the number at index k of a course -/
def cval (row : List Int) (e : Nat) (m : Int) (k : Nat) : Int :=
  if k < row.length then row.getD k 0 else row.getD (k - ((k - row.length) / e + 1) * e) 0 + ((((k - row.length) / e + 1 : Nat) : Int)) * m
theorem cval_lt {row : List Int} {e : Nat} {m : Int} {k : Nat} (h : k < row.length) : cval row e m k = row.getD k 0 := by
  unfold cval; rw [if_pos h]
/-- the numbers come again -/
theorem cval_step {row : List Int} {e : Nat} {m : Int} {k : Nat} (h1 : 1 ≤ e) (h2 : e ≤ row.length) (hk : row.length - e ≤ k) : cval row e m (k + e) = cval row e m k + m := by
  by_cases c : k < row.length
  · rw [cval_lt c]
    unfold cval
    rw [if_neg (by omega)]
    have a : (k + e - row.length) / e = 0 := Nat.div_eq_of_lt (by omega)
    rw [a]
    simp
  · have a : (k + e - row.length) / e = (k - row.length) / e + 1 := by
      rw [show k + e - row.length = (k - row.length) + e by omega, Nat.add_div_right _ (by omega)]
    unfold cval
    rw [if_neg (by omega), if_neg c, a]
    have b : k + e - ((k - row.length) / e + 1 + 1) * e = k - ((k - row.length) / e + 1) * e := by
      rw [Nat.add_mul ((k - row.length) / e + 1) 1 e, Nat.one_mul]
      omega
    rw [b]
    generalize (k - row.length) / e = q
    push_cast
    rw [Int.add_mul ((q : Int) + 1) 1 m, Int.one_mul]
    omega
/-- from N on the numbers come again after e, r more -/
def QP (v : Nat → Int) (e : Nat) (r : Int) (N : Nat) : Prop := ∀ k, N ≤ k → v (k + e) = v k + r
theorem cval_qp {row : List Int} {e : Nat} {m : Int} (h1 : 1 ≤ e) (h2 : e ≤ row.length) : QP (cval row e m) e m (row.length - e) := fun _ h => cval_step h1 h2 h
/-- such numbers are told by the first ones -/
theorem qp_cval {v : Nat → Int} {e L : Nat} {r : Int} (h1 : 1 ≤ e) (h2 : e ≤ L) (q : QP v e r (L - e)) (k : Nat) : v k = cval ((List.range L).map v) e r k := by
  have hl : ((List.range L).map v).length = L := by simp
  induction k using Nat.strongRecOn with
  | ind k ih =>
    by_cases c : k < L
    · rw [cval_lt (by rw [hl]; exact c)]
      simp [List.getD_eq_getElem?_getD, List.getElem?_map, List.getElem?_range c]
    · have z := q (k - e) (by omega)
      rw [show k - e + e = k by omega] at z
      have y := cval_step (row := (List.range L).map v) (m := r) h1 (by rw [hl]; exact h2) (k := k - e) (by rw [hl]; omega)
      rw [show k - e + e = k by omega] at y
      rw [z, y, ih (k - e) (by omega)]
theorem QP.mul {v : Nat → Int} {e N : Nat} {r : Int} (q : QP v e r N) (t k : Nat) (h : N ≤ k) : v (k + t * e) = v k + (t : Int) * r := by
  induction t with
  | zero => simp
  | succ t ih =>
    rw [Nat.add_mul, Nat.one_mul, ← Nat.add_assoc, q _ (by omega), ih]
    push_cast
    rw [Int.add_mul, Int.one_mul]
    omega
theorem QP.up {v : Nat → Int} {e N M : Nat} {r : Int} (q : QP v e r N) (h : N ≤ M) : QP v e r M := fun k hk => q k (by omega)
/-- eventually -/
def QPe (v : Nat → Int) (e : Nat) : Prop := ∃ r N, QP v e r N
theorem QPe.zero (v : Nat → Int) : QPe v 0 := ⟨0, 0, fun k _ => by simp⟩
theorem QPe.sub {v : Nat → Int} {a b : Nat} (h1 : QPe v a) (h2 : QPe v (a + b)) : QPe v b := by
  obtain ⟨r1, N1, q1⟩ := h1
  obtain ⟨r2, N2, q2⟩ := h2
  refine ⟨r2 - r1, N1 + N2, fun k hk => ?_⟩
  have z1 := q2 k (by omega)
  have z2 := q1 (k + b) (by omega)
  rw [show k + b + a = k + (a + b) by omega, z1] at z2
  omega
theorem QPe.mod {v : Nat → Int} {a : Nat} (h1 : QPe v a) : ∀ (t b : Nat), QPe v (t * a + b) → QPe v b
  | 0, b, h => by simpa using h
  | t + 1, b, h => QPe.mod h1 t b (h1.sub (by rw [show a + (t * a + b) = (t + 1) * a + b by rw [Nat.add_mul, Nat.one_mul]; omega]; exact h))
theorem QPe.gcd {v : Nat → Int} (a b : Nat) : QPe v a → QPe v b → QPe v (Nat.gcd a b) := by
  induction a, b using Nat.gcd.induction with
  | H0 n => intro _ h; rw [Nat.gcd_zero_left]; exact h
  | H1 m n hm ih =>
    intro h1 h2
    rw [Nat.gcd_rec]
    refine ih (h1.mod (n / m) (n % m) ?_) h1
    rw [Nat.mul_comm, Nat.div_add_mod]
    exact h2
/-- what comes again in the end with e, and from N on with a multiple of it, comes again from N on with e -/
theorem QP.back {v : Nat → Int} {e g N M : Nat} {r s : Int} (q : QP v e r N) (p : QP v g s M) (h : 1 ≤ e) : QP v g s N := fun k hk => by
  have z1 := p (k + M * e) (by
    have : M * 1 ≤ M * e := Nat.mul_le_mul_left _ h
    omega)
  have z2 := q.mul M k hk
  have z3 := q.mul M (k + g) (by omega)
  rw [show k + M * e + g = k + g + M * e by omega, z3, z2] at z1
  omega
theorem QP.same {v : Nat → Int} {e N M : Nat} {r s : Int} (q : QP v e r N) (p : QP v e s M) : r = s := by
  have a := q (N + M) (by omega)
  have b := p (N + M) (by omega)
  omega
/-- the course as it is told -/
structure Canon (told : List Int) (p : Nat) (r : Int) (v : Nat → Int) : Prop where
  p1 : 1 ≤ p
  pl : p ≤ told.length
  val : ∀ k, v k = cval told p r k
  least : ∀ q, 1 ≤ q → QPe v q → p ≤ q
  few : told.length = p ∨ v (told.length - 1) ≠ v (told.length - 1 - p) + r
theorem Canon.qp {told : List Int} {p : Nat} {r : Int} {v : Nat → Int} (c : Canon told p r v) : QP v p r (told.length - p) := fun k hk => by
  rw [c.val, c.val]
  exact cval_step c.p1 c.pl hk
theorem Canon.dvd {told : List Int} {p : Nat} {r : Int} {v : Nat → Int} (c : Canon told p r v) {q : Nat} (h : QPe v q) : p ∣ q := by
  have g := QPe.gcd p q ⟨r, _, c.qp⟩ h
  have a := c.least (Nat.gcd p q) (Nat.gcd_pos_of_pos_left _ c.p1) g
  have b : Nat.gcd p q ≤ p := Nat.gcd_le_left _ c.p1
  have e : Nat.gcd p q = p := by omega
  rw [← e]
  exact Nat.gcd_dvd_right p q
theorem Canon.told_eq {told : List Int} {p : Nat} {r : Int} {v : Nat → Int} (c : Canon told p r v) : told = (List.range told.length).map v := by
  refine List.ext_getElem (by simp) fun i h1 h2 => ?_
  rw [List.getElem_map, List.getElem_range, c.val, cval_lt h1, List.getD_eq_getElem?_getD, List.getElem?_eq_getElem h1]
  rfl
/-- only one -/
theorem Canon.one {t1 t2 : List Int} {p1 p2 : Nat} {r1 r2 : Int} {v : Nat → Int} (a : Canon t1 p1 r1 v) (b : Canon t2 p2 r2 v) : t1 = t2 ∧ p1 = p2 ∧ r1 = r2 := by
  have hp : p1 = p2 := Nat.dvd_antisymm (a.dvd ⟨_, _, b.qp⟩) (b.dvd ⟨_, _, a.qp⟩)
  subst hp
  have hr := a.qp.same b.qp
  subst hr
  have go : ∀ {s1 s2 : List Int}, Canon s1 p1 r1 v → Canon s2 p1 r1 v → s1.length ≤ s2.length → s1.length = s2.length := fun {s1 s2} a b h => by
    rcases b.few with z | z
    · have := a.pl; omega
    · refine Classical.byContradiction fun n => z ?_
      have w := a.qp (s2.length - 1 - p1) (by omega)
      have := a.pl
      rw [show s2.length - 1 - p1 + p1 = s2.length - 1 by omega] at w
      exact w
  have hl : t1.length = t2.length := by
    rcases Nat.le_total t1.length t2.length with z | z
    · exact go a b z
    · exact (go b a z).symm
  refine ⟨?_, rfl, rfl⟩
  rw [a.told_eq, b.told_eq, hl]
/-! ### how it is found -/
/-- the check of a step -/
def stepOk (v : Nat → Int) (S e p : Nat) (r : Int) : Prop := ∀ k, k < e → v (S + k + p) - v (S + k) = r
theorem stepOk.qp {v : Nat → Int} {S e p : Nat} {r m : Int} (h1 : 1 ≤ e) (q : QP v e m S) (s : stepOk v S e p r) : QP v p r S := fun k hk => by
  have a := s ((k - S) % e) (Nat.mod_lt _ h1)
  have d : k = S + (k - S) % e + ((k - S) / e) * e := by
    have := Nat.mod_add_div (k - S) e
    rw [Nat.mul_comm] at this
    omega
  have z1 := q.mul ((k - S) / e) (S + (k - S) % e) (by omega)
  have z2 := q.mul ((k - S) / e) (S + (k - S) % e + p) (by omega)
  rw [show S + (k - S) % e + p + (k - S) / e * e = (S + (k - S) % e + (k - S) / e * e) + p by omega, ← d] at z2
  rw [← d] at z1
  omega
theorem stepOk.of {v : Nat → Int} {S e p : Nat} {r : Int} (q : QP v p r S) : stepOk v S e p r := fun k _ => by
  rw [q (S + k) (by omega)]
  omega
/-- the least divisor that goes is the least step at all -/
theorem least_of {v : Nat → Int} {S e p : Nat} {m r : Int} (h1 : 1 ≤ e) (q : QP v e m S) (hp : 1 ≤ p) (qp : QP v p r S) (hd : p ∣ e) (hm : ∀ p', 1 ≤ p' → p' < p → p' ∣ e → ¬ ∃ r', QP v p' r' S) : ∀ g, 1 ≤ g → QPe v g → p ≤ g := fun g hg hq => by
  have z := QPe.gcd e g ⟨_, _, q⟩ hq
  obtain ⟨r', N, z⟩ := z
  have y := q.back z h1
  refine Classical.byContradiction fun n => hm (Nat.gcd e g) (Nat.gcd_pos_of_pos_left _ h1) ?_ (Nat.gcd_dvd_left e g) ⟨r', y⟩
  have : Nat.gcd e g ≤ g := Nat.gcd_le_right _ hg
  omega
/-- fewest numbers: the count goes down while the last one comes from an earlier one -/
theorem few_qp {v : Nat → Int} {p n : Nat} {r : Int} (q : QP v p r (n - p)) (hp : p < n) (h : v (n - 1) = v (n - 1 - p) + r) : QP v p r (n - 1 - p) := fun k hk => by
  by_cases c : k = n - 1 - p
  · subst c
    rw [show n - 1 - p + p = n - 1 by omega]
    exact h
  · exact q k (by omega)
theorem canon_of {v : Nat → Int} {p n : Nat} {r : Int} (h1 : 1 ≤ p) (h2 : p ≤ n) (q : QP v p r (n - p)) (hl : ∀ g, 1 ≤ g → QPe v g → p ≤ g) (hf : n = p ∨ v (n - 1) ≠ v (n - 1 - p) + r) : Canon ((List.range n).map v) p r v where
  p1 := h1
  pl := by simpa using h2
  val := qp_cval h1 h2 q
  least := hl
  few := by simpa using hf

/-- the tail alone, begun anew -/
theorem cval_tail {tail : List Int} {m : Int} {k : Nat} (h : tail ≠ []) : tail.getD (k % tail.length) 0 + ((k / tail.length : Nat) : Int) * m = cval tail tail.length m k := by
  have hl : 1 ≤ tail.length := List.length_pos_iff.mpr h
  by_cases c : k < tail.length
  · rw [cval_lt c, Nat.mod_eq_of_lt c, Nat.div_eq_of_lt c]
    simp
  · unfold cval
    rw [if_neg c]
    have a : k / tail.length = (k - tail.length) / tail.length + 1 := by
      rw [show k = (k - tail.length) + tail.length by omega, Nat.add_div_right _ (by omega), Nat.add_sub_cancel]
    rw [← a]
    have b : k % tail.length = k - k / tail.length * tail.length := by
      have := Nat.mod_add_div k tail.length
      rw [Nat.mul_comm] at this
      omega
    rw [b]
theorem getD_drop (l : List Int) (n i : Nat) : (l.drop n).getD i 0 = l.getD (n + i) 0 := by
  rw [List.getD_eq_getElem?_getD, List.getD_eq_getElem?_getD, List.getElem?_drop]
theorem cval_drop {row : List Int} {e : Nat} {m : Int} (h1 : 1 ≤ e) (h2 : e ≤ row.length) (j : Nat) : cval (row.drop (row.length - e)) e m j = cval row e m (row.length - e + j) := by
  have q : QP (fun j => cval row e m (row.length - e + j)) e m (e - e) := fun k _ => by
    dsimp only
    rw [show row.length - e + (k + e) = (row.length - e + k) + e by omega]
    exact cval_step h1 h2 (by omega)
  have z := qp_cval h1 (Nat.le_refl e) q j
  rw [z]
  congr 1
  refine List.ext_getElem (by simp; omega) fun i a b => ?_
  have hi : i < e := by simp at b; exact b
  rw [List.getElem_drop, List.getElem_map, List.getElem_range, cval_lt (by omega), List.getD_eq_getElem?_getD, List.getElem?_eq_getElem (by omega)]
  rfl
def Sm (i : Int) : Prop := i.natAbs < 2 ^ 4000
theorem Sm.log {i : Int} (h : Sm i) : i.natAbs.log2 ≤ 4000 := by
  by_cases z : i.natAbs = 0
  · rw [z]; simp
  · exact Nat.le_of_lt ((Nat.log2_lt z).mpr h)
theorem Sm.le {i j : Int} (h : Sm j) (k : i.natAbs ≤ j.natAbs) : Sm i := Nat.lt_of_le_of_lt k h
theorem qp_rise {v : Nat → Int} {p e : Nat} {r m : Int} (q : QP v p r 0) (q2 : QP v e m 0) (hd : p ∣ e) (h1 : 1 ≤ e) : r.natAbs ≤ m.natAbs := by
  obtain ⟨t, rfl⟩ := hd
  have a := q.mul t 0 (Nat.le_refl _)
  have b := q2 0 (Nat.le_refl _)
  rw [Nat.mul_comm t p, b] at a
  have e : m = (t : Int) * r := by omega
  rw [e, Int.natAbs_mul, Int.natAbs_natCast]
  have ht : 1 ≤ t := by
    cases t with
    | zero => simp at h1
    | succ t => omega
  calc r.natAbs = 1 * r.natAbs := (Nat.one_mul _).symm
    _ ≤ t * r.natAbs := Nat.mul_le_mul_right _ ht
theorem getD_of {row : List Int} {v : Nat → Int} (h : row = (List.range row.length).map v) {i : Nat} (hi : i < row.length) : row.getD i 0 = v i := by
  rw [h, List.getD_eq_getElem?_getD, List.getElem?_map, List.getElem?_range hi]
  rfl
theorem take_of {row : List Int} {v : Nat → Int} (h : row = (List.range row.length).map v) {n : Nat} (hn : n ≤ row.length) : row.take n = (List.range n).map v := by
  rw [h, ← List.map_take, List.take_range, Nat.min_eq_left hn]

section
local macro_rules | `(tactic| walk_at "al") => `(tactic| first
  | omega
  | exact Or.inl (Or.inl ⟨by omega, by omega⟩)
  | exact Or.inl (Or.inr ⟨by omega, by omega⟩)
  | exact ⟨by omega, Or.inl (by omega)⟩
  | exact ⟨by omega, by omega, by omega, by omega⟩
  | exact ⟨by decide, by decide, by decide⟩)
local macro_rules | `(tactic| walk_at "bk") => `(tactic| repeat (first | exact BackE.nil | apply BackE.imm | apply BackE.own | apply BackE.hand))
local macro_rules | `(tactic| walk_at "ds1") => `(tactic| first
  | ((with_reducible refine' s_vi ?ee_ ?_); (case ee_ => rfl))
  | ((with_reducible refine' s_vs ?ee_ ?_); (case ee_ => rfl))
  | with_reducible refine s_c ?_
  | with_reducible refine s_aN ?_
  | with_reducible refine s_aC ?_
  | with_reducible refine s_op ?_
  | ((with_reducible refine' x_val2 ?ee_ ?ff_ ?_); (case ee_ => rfl); (case ff_ => rfl))
  | ((with_reducible refine' x_bl ?ee_ ?_); (case ee_ => rfl))
  | ((with_reducible refine' x_int ?ee_ ?_); (case ee_ => rfl))
  | ((with_reducible refine' x_val ?ee_ ?_); (case ee_ => rfl))
  | ((with_reducible refine' x_vals ?ee_ ?_); (case ee_ => rfl))
  | ((with_reducible refine' x_frzs ?ee_ ?ll_ ?_); (case ee_ => rfl); (case ll_ => rfl))
  | ((with_reducible refine' x_frzO ?ee_ ?_); (case ee_ => rfl))
  | ((with_reducible refine' x_frz2 ?ee_ ?ff_ ?_); (case ee_ => rfl); (case ff_ => rfl))
  | ((with_reducible refine' x_frz ?ee_ ?_); (case ee_ => rfl))
  | ((with_reducible refine' x_asg ?ee_ ?_); (case ee_ => rfl))
  | with_reducible refine o_addI ?_
  | with_reducible refine o_subI ?_
  | ((with_reducible refine' o_mulI ?cc_ ?_); (case cc_ => walk_at "al"))
  | ((with_reducible refine' o_divI ?cc_ ?_); (case cc_ => walk_at "al"))
  | ((with_reducible refine' o_modI ?cc_ ?_); (case cc_ => walk_at "al"))
  | ((with_reducible refine' o_powI ?cc_ ?_); (case cc_ => walk_at "al"))
  | with_reducible refine o_andI ?_
  | with_reducible refine o_ltI ?_
  | with_reducible refine o_leI ?_
  | with_reducible refine o_gtI ?_
  | with_reducible refine o_geI ?_
  | with_reducible refine o_eqI ?_
  | with_reducible refine o_eqS ?_
  | with_reducible refine o_eqP ?_
  | with_reducible refine o_neI ?_
  | with_reducible refine o_neS ?_
  | with_reducible refine o_isN_non ?_
  | with_reducible refine o_notN_non ?_
  | with_reducible refine o_isN_bl ?_
  | with_reducible refine o_notN_bl ?_
  | with_reducible refine o_isN_int ?_
  | with_reducible refine o_notN_int ?_
  | with_reducible refine o_isN_str ?_
  | with_reducible refine o_notN_str ?_
  | with_reducible refine o_isN_lst ?_
  | with_reducible refine o_notN_lst ?_
  | with_reducible refine o_isN_tup ?_
  | with_reducible refine o_notN_tup ?_
  | with_reducible refine o_isN_obj ?_
  | with_reducible refine o_notN_obj ?_
  | with_reducible refine o_eqB ?_
  | with_reducible refine o_isN' ?_
  | with_reducible refine o_isB' ?_
  | with_reducible refine o_notN' ?_
  | ((with_reducible refine' o_ixT ?ee_ ?ff_ ?_); (case ee_ => first | rfl | assumption); (case ff_ => first | rfl | assumption))
  | ((with_reducible refine' ixI ?aa_ ?bb_ ?_); (case aa_ => omega); (case bb_ => omega))
  | ((with_reducible refine' o_ixL ?ee_ ?ff_ ?_); (case ee_ => first | rfl | assumption); (case ff_ => first | rfl | assumption))
  | with_reducible refine o_slF ?_
  | with_reducible refine o_slL ?_
  | with_reducible refine o_slT ?_
  | with_reducible refine s_dnT ?_
  | with_reducible refine s_dnK ?_
  | with_reducible refine o_neP ?_
  | with_reducible refine o_neC ?_
  | ((with_reducible refine' o_fld ?ee_ ?_); (case ee_ => rfl))
  | with_reducible refine o_lenI ?_
  | with_reducible refine o_lenL ?_
  | with_reducible refine o_lenT ?_
  | with_reducible refine o_lenF ?_
  | with_reducible refine o_lenD ?_
  | with_reducible refine o_int ?_
  | with_reducible refine o_abs ?_
  | with_reducible refine o_max ?_
  | with_reducible refine o_min ?_
  | with_reducible refine o_list ?_
  | ((with_reducible refine' o_inT ?ee_ ?_); (case ee_ => rfl))
  | ((with_reducible refine' o_ninT ?ee_ ?_); (case ee_ => rfl))
  | with_reducible refine o_neg ?_
  | ((with_reducible refine' o_inF ?ee_ ?_); (case ee_ => rfl))
  | ((with_reducible refine' o_ninF ?ee_ ?_); (case ee_ => rfl))
  | with_reducible refine s_tup ?_
  | with_reducible refine s_lst ?_
  | with_reducible refine s_un ?_
  | with_reducible refine s_cl ?_
  | with_reducible refine s_test ?_
  | with_reducible refine s_and ?_
  | with_reducible refine s_or ?_
  | with_reducible refine s_not ?_
  | with_reducible refine s_andV ?_
  | with_reducible refine s_orV ?_
  | with_reducible refine s_notV ?_
  | with_reducible refine s_ifV ?_
  | with_reducible refine s_chain ?_
  | with_reducible refine x_ib ?_
  | with_reducible refine s_pN ?_
  | with_reducible refine s_pS ?_
  | with_reducible refine s_sl ?_
  | with_reducible refine s_sameL ?_
  | with_reducible refine o_isNB ?_
  | with_reducible refine s_fz ?_
  | with_reducible refine o_ixH ?_
  | ((with_reducible refine' x_noa ?ee_ ?_); (case ee_ => rfl))
  | ((with_reducible refine' x_lenN ?ee_ ?ff_ ?_); (case ee_ => omega); (case ff_ => omega))
  | ((with_reducible refine' x_le1000 ?ee_ ?_); (case ee_ => rfl))
  | with_reducible refine s_call ?_
  | ((with_reducible refine' x_con ?ee_ ?ff_ ?_); (case ee_ => rfl); (case ff_ => rfl))
  | ((with_reducible refine' s_callD ?ee_ ?ff_ ?_); (case ee_ => rfl); (case ff_ => rfl))
  | ((with_reducible refine' x_back ?ll_ ?ee_ ?_); (case ll_ => rfl); (case ee_ => rfl))
  | ((with_reducible refine' x_back1 ?ee_ ?_); (case ee_ => rfl))
  | with_reducible refine s_gaN ?_
  | with_reducible refine s_gaV ?_
  | ((with_reducible refine' s_gaR ?ee_ ?_); (case ee_ => rfl))
  | with_reducible refine s_meth ?_
  | with_reducible refine s_meth0 ?_
  | with_reducible refine s_methK ?_
  | with_reducible refine s_makeK ?_
  | ((with_reducible refine' x_frzsK ?ee_ ?ll_ ?_); (case ee_ => rfl); (case ll_ => rfl))
  | with_reducible refine s_prop ?_
  | with_reducible refine s_make ?_
  | with_reducible refine s_own2 ?_
  | with_reducible refine s_eqX ?_
  | with_reducible refine s_neX ?_
  | with_reducible refine s_rev ?_
  | with_reducible refine x_nb ?_
  | ((with_reducible refine' x_rev ?ee_ ?ff_ ?_); (case ee_ => rfl); (case ff_ => rfl))
  | with_reducible refine s_lenO ?_
  | ((with_reducible refine' s_mut ?ee_ ?_); (case ee_ => rfl))
  | ((with_reducible refine' x_mut ?ee_ ?ff_ ?_); (case ee_ => rfl); (case ff_ => rfl))
  | ((with_reducible refine' s_mut0 ?ee_ ?_); (case ee_ => rfl))
  | with_reducible refine m_clr ?_
  | with_reducible refine m_rev ?_
  | with_reducible refine s_dget ?_
  | with_reducible refine s_dget1 ?_
  | with_reducible refine s_dget2 ?_
  | ((with_reducible refine' x_isT ?ee_ ?_); (case ee_ => rfl))
  | ((with_reducible refine' x_isK ?ee_ ?_); (case ee_ => rfl))
  | ((with_reducible refine' x_get2 ?ee_ ?ff_ ?gg_ ?_); (case ee_ => rfl); (case ff_ => rfl); (case gg_ => rfl))
  | with_reducible refine s_din ?_
  | with_reducible refine s_dnin ?_
  | ((with_reducible refine' s_lookT ?ee_ ?_); (case ee_ => rfl))
  | ((with_reducible refine' s_lookK ?ee_ ?_); (case ee_ => rfl))
  | with_reducible refine s_seq ?_
  | with_reducible refine s_set ?_
  | with_reducible refine s_ret ?_
  | with_reducible refine s_retN ?_
  | with_reducible refine s_if ?_
  | with_reducible refine s_next ?_
  | with_reducible refine s_drop ?_
  | with_reducible refine s_brk ?_
  | with_reducible refine s_cnt ?_
  | with_reducible refine s_asg ?_
  | with_reducible refine s_raise ?_
  | with_reducible refine s_setIx ?_
  | ((with_reducible refine' s_gN ?ee_ ?_); (case ee_ => rfl))
  | with_reducible refine s_gNl ?_
  | with_reducible refine s_gCn ?_
  | ((with_reducible refine' s_gT ?ee_ ?_); (case ee_ => rfl))
  | ((with_reducible refine' s_gL ?ee_ ?_); (case ee_ => rfl))
  | with_reducible refine s_for ?_
  | with_reducible refine s_wSeq ?_
  | ((with_reducible refine' x_items ?ee_ ?ff_ ?_); (case ee_ => rfl); (case ff_ => rfl))
  | with_reducible refine s_rng1 ?_
  | ((with_reducible refine' x_rng1 ?ee_ ?aa_ ?bb_ ?_); (case ee_ => rfl); (case aa_ => omega); (case bb_ => omega))
  | with_reducible refine s_rng2 ?_
  | ((with_reducible refine' x_rng2 ?ee_ ?aa_ ?_); (case ee_ => rfl); (case aa_ => exact ⟨by omega, by omega, by omega, by omega⟩))
  | with_reducible refine s_enum ?_
  | ((with_reducible refine' x_enum ?ee_ ?_); (case ee_ => rfl))
  | with_reducible refine s_lc ?_
  | with_reducible refine s_lcG ?_
  | ((with_reducible refine' s_lcV ?ee_ ?ff_ ?_); (case ee_ => rfl); (case ff_ => rfl))
  | ((with_reducible refine' s_forV ?ee_ ?_); (case ee_ => rfl))
  | with_reducible refine isi_bl_bool ?_
  | with_reducible refine isi_bl_int ?_
  | with_reducible refine isi_bl_str ?_
  | with_reducible refine isi_bl_list ?_
  | with_reducible refine isi_bl_tuple ?_
  | with_reducible refine isi_int_bool ?_
  | with_reducible refine isi_int_int ?_
  | with_reducible refine isi_int_str ?_
  | with_reducible refine isi_int_list ?_
  | with_reducible refine isi_int_tuple ?_
  | with_reducible refine isi_str_bool ?_
  | with_reducible refine isi_str_int ?_
  | with_reducible refine isi_str_str ?_
  | with_reducible refine isi_str_list ?_
  | with_reducible refine isi_str_tuple ?_
  | with_reducible refine isi_lst_bool ?_
  | with_reducible refine isi_lst_int ?_
  | with_reducible refine isi_lst_str ?_
  | with_reducible refine isi_lst_list ?_
  | with_reducible refine isi_lst_tuple ?_
  | with_reducible refine isi_tup_bool ?_
  | with_reducible refine isi_tup_int ?_
  | with_reducible refine isi_tup_str ?_
  | with_reducible refine isi_tup_list ?_
  | with_reducible refine isi_tup_tuple ?_
  | with_reducible refine isi_non_bool ?_
  | with_reducible refine isi_non_int ?_
  | with_reducible refine isi_non_str ?_
  | with_reducible refine isi_non_list ?_
  | with_reducible refine isi_non_tuple ?_
  | ((with_reducible refine' o_rep1 ?aa_ ?_); (case aa_ => exact ⟨by omega, by omega⟩))
  | ((with_reducible refine' o_eqIs ?aa_ ?bb_ ?_); (case aa_ => first | omega | (simp only [List.length_map, List.length_range, List.length_replicate]; omega)); (case bb_ => first | omega | (simp only [List.length_map, List.length_range, List.length_replicate]; omega)))
  | with_reducible refine o_intB ?_
  | ((with_reducible refine' o_neIs ?aa_ ?bb_ ?_); (case aa_ => first | omega | (simp only [List.length_map, List.length_range, List.length_replicate]; omega)); (case bb_ => first | omega | (simp only [List.length_map, List.length_range, List.length_replicate]; omega)))
  | with_reducible refine s_par ?_
  | ((with_reducible refine' x_par ?ee_ ?ff_ ?gg_ ?_); (case ee_ => rfl); (case ff_ => rfl); (case gg_ => rfl))
  | with_reducible refine s_rng1L ?_
  | ((with_reducible refine' x_rng1L ?ee_ ?_); (case ee_ => rfl))
  | with_reducible refine s_rng2L ?_
  | ((with_reducible refine' x_rng2L ?ee_ ?_); (case ee_ => rfl))
  | with_reducible refine s_fset ?_
  | ((with_reducible refine' x_fset ?ee_ ?ff_ ?gg_ ?_); (case ee_ => rfl); (case ff_ => rfl); (case gg_ => rfl))
  | with_reducible refine s_tryG ?_
  | ((with_reducible refine' s_xv ?ee_ ?ff_ ?gg_ ?_); (case ee_ => rfl); (case ff_ => assumption); (case gg_ => assumption))
  | ((with_reducible refine' s_xis ?ee_ ?ff_ ?_); (case ee_ => rfl); (case ff_ => assumption))
  | ((with_reducible refine' x_xis ?ee_ ?ff_ ?_); (case ee_ => rfl); (case ff_ => assumption))
  | ((with_reducible refine' x_clear ?ee_ ?_); (case ee_ => rfl))
  | with_reducible refine s_yes ?_
  | ((with_reducible refine' s_end ?ee_ ?bb_ ?_); (case ee_ => rfl); (case bb_ => walk_at "bk"))
  | ((with_reducible refine' x_pxT ?ee_ ?_); (case ee_ => assumption))
  | with_reducible refine x_got rfl ?_
  | with_reducible refine x_in0 ?_
  | with_reducible refine x_inS ?_
  | ((with_reducible refine' s_gVal ?ee_ ?_); (case ee_ => rfl))
  | ((with_reducible refine' s_gTag ?ee_ ?_); (case ee_ => rfl))
  | ((with_reducible refine' x_px ?bb_ ?_); (case bb_ => walk_at "bk"))
  | ((with_reducible refine' s_endN ?bb_ ?_); (case bb_ => walk_at "bk"))
  | with_reducible refine iteT ?_
  | with_reducible refine iteF ?_
  | with_reducible refine r_iteNf ?_
  | with_reducible refine r_iteNt ?_)
local macro_rules | `(tactic| walk_at "ds") => `(tactic| (repeat' (walk_at "ds1")))
set_option hygiene false in
local macro_rules | `(tactic| walk_at "dx") => `(tactic| (repeat' (first | walk_at "ds1" | with_reducible refine (fun (a : Addr) => ?_ : ∀ _ : Addr, _) | with_reducible refine ite_d (fun c => ?_) (fun c => ?_) | with_reducible refine ite_nd (fun c => ?_) (fun c => ?_) | with_reducible refine ite_nb (fun c => ?_) (fun c => ?_) | with_reducible refine ite_b (fun c => ?_) (fun c => ?_))))
set_option hygiene false in
local macro_rules | `(tactic| walk_at "dy") => `(tactic| (repeat' (first | walk_at "ds1" | with_reducible refine (fun (a : Addr) => ?_ : ∀ _ : Addr, _))))
/-! ### wells: the drawn numbers of the strips' and the courses' laws -/
def conWell : Con := fun es P _ => ∃ (cell salt : Int), es = [.int cell, .int salt] ∧ 0 ≤ salt ∧ salt ≤ 100000 ∧ ∀ (n : Int) (l : Addr), P (.own l (.lst [.int n])) es
def conPick : Con := fun es P _ => ∃ (l : Addr) (n many : Int), es = [.own l (.lst [.int n]), .int many] ∧ 0 < many ∧ (many < 1073741824 ∨ many.natAbs.log2 < 9000) ∧ ∀ r n' : Int, 0 ≤ r → r < many → P (.int r) [.own l (.lst [.int n']), .int many]
theorem log2_le {n : Int} {k : Nat} (h0 : 0 ≤ n) (h : n < 2 ^ k) : n.natAbs.log2 ≤ k := by
  by_cases z : n.natAbs = 0
  · rw [z]; simp
  · have a : n.natAbs < 2 ^ k := by
      have b : ((n.natAbs : Nat) : Int) = n := Int.natAbs_of_nonneg h0
      have c : ((n.natAbs : Nat) : Int) < ((2 ^ k : Nat) : Int) := by rw [b]; push_cast; exact h
      exact Int.ofNat_lt.mp c
    exact Nat.le_of_lt ((Nat.log2_lt z).mpr a)
section
variable {P : Program} {w : World} {K : PySem.W.Frag} {mg : Str → Option Value} {base : Heap} {A : Ad}
theorem okd__law_pick (T : Txt K mg A) : FnOk P w K mg base (L2.CX P w) (0 + 1) A.f__law_pick A.d__law_pick P__law_pick (spD K conPick) := by
  refine okD_fn T.F__law_pick sc__law_pick (fun es P PX h => ?_) (fun cdv A' outer s H I E es R PX hr fo hc => ?_)
  · obtain ⟨l, n, many, rfl, _⟩ := h
    rfl
  obtain ⟨l, n, many, rfl, h0, h1, hP⟩ := hc
  have hu := hu_of hr
  refine ⟨_, (dss_cons (ds_set (i := 2) sc__law_pick.nd rfl (Or.inl rfl) (de_op dor_mod (de_typ dcr_int (by rfl) T.n_int (by decide +kernel) (da_cons (de_ix dix (dv 0) de_int) da_nil)) (dv 1)))
(dss_cons (ds_setIx (pv 0) de_int (de_op dor_div (de_ix dix (dv 0) de_int) (dv 1)))
(dss_one (ds_ret (dv 2))))), ?_⟩
  walk_at "dy"
  refine ⟨⟨h0, h1⟩, ?_⟩
  refine ⟨⟨_, _, rfl⟩, ?_⟩
  walk_at "dx"
  refine ⟨_, _, _, _, _, 0, rfl, rfl, rfl, rfl, ?_⟩
  walk_at "dx"
  exact hP _ _ (Int.emod_nonneg _ (by omega)) (Int.emod_lt_of_pos _ h0)
theorem okd__law_well (T : Txt K mg A) : FnOk P w K mg base (L2.CX P w) (0 + 1) A.f__law_well A.d__law_well P__law_well (spD K conWell) := by
  refine okD_fn T.F__law_well sc__law_well (fun es P PX h => ?_) (fun cdv A' outer s H I E es R PX hr fo hc => ?_)
  · obtain ⟨cell, salt, rfl, _⟩ := h
    rfl
  obtain ⟨cell, salt, rfl, h0, h1, hP⟩ := hc
  have hu := hu_of hr
  refine ⟨_, (dss_cons (ds_if (dt_cmp dor_ge (dv 0) (de_op dor_pow de_int de_int) (nomark _))
(dss_one (ds_ret (de_lst (da_cons (de_op dor_sub (dv 0) (de_op dor_pow de_int de_int)) da_nil))))
dss_nil)
(dss_cons (ds_set (i := 2) sc__law_well.nd rfl (Or.inl rfl) de_int)
(dss_cons (ds_set (i := 3) sc__law_well.nd rfl (Or.inl rfl) (de_op dor_mod (de_typ dcr_int (by rfl) T.n_int (by decide +kernel) (da_cons (de_op dor_add (de_op dor_add (de_op dor_mul (dv 0) de_int) (de_op dor_mul (dv 1) de_int)) de_int) da_nil)) (dv 2)))
(dss_cons (ds_set (i := 4) sc__law_well.nd rfl (Or.inl rfl) de_int)
(dss_cons (ds_for (passes_of rfl) rfl (di_rng1 (by rfl) T.n_range (da_cons de_int da_nil)) (dg_name (i := 5) sc__law_well.nd rfl (Or.inl rfl))
(dss_cons (ds_set (i := 3) sc__law_well.nd rfl (Or.inl rfl) (de_op dor_mod (de_typ dcr_int (by rfl) T.n_int (by decide +kernel) (da_cons (de_op dor_add (de_op dor_add (de_op dor_mul (de_op dor_mul (dv 3) (dv 3)) (dv 3)) (de_op dor_mul de_int (dv 5))) (dv 1)) da_nil)) (dv 2)))
(dss_one (ds_set (i := 4) sc__law_well.nd rfl (Or.inl rfl) (de_op dor_add (de_op dor_mul (dv 4) (dv 2)) (dv 3))))))
(dss_one (ds_ret (de_lst (da_cons (dv 4) da_nil))))))))), ?_⟩
  walk_at "dy"
  walk_at "dx"
  · exact hP _ _
  refine ⟨fun i e => ∃ (seed num : Int) (v5 : Option Ent), e = [some (.imm (.int cell)), some (.imm (.int salt)), some (.imm (.int 170141183460469231731687303715884105727)), some (.imm (.int seed)), some (.imm (.int num)), v5] ∧ 0 ≤ seed ∧ seed < 170141183460469231731687303715884105727 ∧ 0 ≤ num ∧ num < 2 ^ (128 * i), ⟨_, _, _, rfl, Int.emod_nonneg _ (by decide), Int.emod_lt_of_pos _ (by decide), by decide, by decide⟩, ?_, ?_⟩
  · rintro i c e hc ⟨seed, num, v5, rfl, s0, s1, n0, n1⟩
    obtain ⟨hi, rfl⟩ := rng_get hc
    have hi : i < 16 := by omega
    walk_at "dx"
    have b127 : ∀ z : Int, 0 ≤ z → z < 170141183460469231731687303715884105727 → z.natAbs.log2 ≤ 127 := fun z a b => log2_le a (Int.lt_trans b (by decide))
    have ls := b127 seed s0 s1
    refine ⟨.inr (by unfold CMulW; omega), ?_⟩
    walk_at "dx"
    have lss : (seed * seed).natAbs.log2 ≤ 254 := by
      refine log2_le (Int.mul_nonneg s0 s0) ?_
      have z : seed * seed ≤ 170141183460469231731687303715884105726 * 170141183460469231731687303715884105726 := Int.mul_le_mul (by omega) (by omega) s0 (by decide)
      exact Int.lt_of_le_of_lt z (by decide)
    refine ⟨.inr (by unfold CMulW; omega), ?_⟩
    walk_at "dx"
    have ln := log2_le n0 n1
    refine ⟨.inr (by unfold CMulW; have : (170141183460469231731687303715884105727 : Int).natAbs.log2 = 126 := (by decide +kernel); omega), ?_⟩
    walk_at "dx"
    have t0 : 0 ≤ (seed * seed * seed + 7 * (0 + (i : Int)) + salt) % 170141183460469231731687303715884105727 := Int.emod_nonneg _ (by decide)
    have t1 : (seed * seed * seed + 7 * (0 + (i : Int)) + salt) % 170141183460469231731687303715884105727 < 170141183460469231731687303715884105727 := Int.emod_lt_of_pos _ (by decide)
    refine ⟨_, _, _, rfl, t0, t1, Int.add_nonneg (Int.mul_nonneg n0 (by decide)) t0, ?_⟩
    have e : (2 : Int) ^ (128 * (i + 1)) = 2 ^ (128 * i) * 340282366920938463463374607431768211456 := by
      rw [show 128 * (i + 1) = 128 * i + 128 by omega, Int.pow_add]
      rfl
    rw [e]
    generalize (2 : Int) ^ (128 * i) = M at *
    omega
  · rintro e ⟨seed, num, v5, rfl, s0, s1, n0, n1⟩
    walk_at "dx"
    exact hP _ _
end

end

section
local macro_rules | `(tactic| walk_at "al") => `(tactic| first
  | omega
  | exact Or.inl (Or.inl ⟨by omega, by omega⟩)
  | exact Or.inl (Or.inr ⟨by omega, by omega⟩)
  | exact ⟨by omega, Or.inl (by omega)⟩
  | exact ⟨by omega, by omega, by omega, by omega⟩
  | exact ⟨by decide, by decide, by decide⟩)
local macro_rules | `(tactic| walk_at "bk") => `(tactic| repeat (first | exact BackE.nil | apply BackE.imm | apply BackE.own | apply BackE.hand))
local macro_rules | `(tactic| walk_at "ds1") => `(tactic| first
  | ((with_reducible refine' s_vi ?ee_ ?_); (case ee_ => rfl))
  | ((with_reducible refine' s_vs ?ee_ ?_); (case ee_ => rfl))
  | with_reducible refine s_c ?_
  | with_reducible refine s_aN ?_
  | with_reducible refine s_aC ?_
  | with_reducible refine s_op ?_
  | ((with_reducible refine' x_val2 ?ee_ ?ff_ ?_); (case ee_ => rfl); (case ff_ => rfl))
  | ((with_reducible refine' x_bl ?ee_ ?_); (case ee_ => rfl))
  | ((with_reducible refine' x_int ?ee_ ?_); (case ee_ => rfl))
  | ((with_reducible refine' x_val ?ee_ ?_); (case ee_ => rfl))
  | ((with_reducible refine' x_vals ?ee_ ?_); (case ee_ => rfl))
  | ((with_reducible refine' x_frzs ?ee_ ?ll_ ?_); (case ee_ => rfl); (case ll_ => rfl))
  | ((with_reducible refine' x_frzO ?ee_ ?_); (case ee_ => rfl))
  | ((with_reducible refine' x_frz2 ?ee_ ?ff_ ?_); (case ee_ => rfl); (case ff_ => rfl))
  | ((with_reducible refine' x_frz ?ee_ ?_); (case ee_ => rfl))
  | ((with_reducible refine' x_asg ?ee_ ?_); (case ee_ => rfl))
  | with_reducible refine o_addI ?_
  | with_reducible refine o_subI ?_
  | ((with_reducible refine' o_mulI ?cc_ ?_); (case cc_ => walk_at "al"))
  | ((with_reducible refine' o_divI ?cc_ ?_); (case cc_ => walk_at "al"))
  | ((with_reducible refine' o_modI ?cc_ ?_); (case cc_ => walk_at "al"))
  | ((with_reducible refine' o_powI ?cc_ ?_); (case cc_ => walk_at "al"))
  | with_reducible refine o_andI ?_
  | with_reducible refine o_ltI ?_
  | with_reducible refine o_leI ?_
  | with_reducible refine o_gtI ?_
  | with_reducible refine o_geI ?_
  | with_reducible refine o_eqI ?_
  | with_reducible refine o_eqS ?_
  | with_reducible refine o_eqP ?_
  | with_reducible refine o_neI ?_
  | with_reducible refine o_neS ?_
  | with_reducible refine o_isN_non ?_
  | with_reducible refine o_notN_non ?_
  | with_reducible refine o_isN_bl ?_
  | with_reducible refine o_notN_bl ?_
  | with_reducible refine o_isN_int ?_
  | with_reducible refine o_notN_int ?_
  | with_reducible refine o_isN_str ?_
  | with_reducible refine o_notN_str ?_
  | with_reducible refine o_isN_lst ?_
  | with_reducible refine o_notN_lst ?_
  | with_reducible refine o_isN_tup ?_
  | with_reducible refine o_notN_tup ?_
  | with_reducible refine o_isN_obj ?_
  | with_reducible refine o_notN_obj ?_
  | with_reducible refine o_eqB ?_
  | with_reducible refine o_isN' ?_
  | with_reducible refine o_isB' ?_
  | with_reducible refine o_notN' ?_
  | ((with_reducible refine' o_ixT ?ee_ ?ff_ ?_); (case ee_ => first | rfl | assumption); (case ff_ => first | rfl | assumption))
  | ((with_reducible refine' ixI ?aa_ ?bb_ ?_); (case aa_ => omega); (case bb_ => omega))
  | ((with_reducible refine' o_ixL ?ee_ ?ff_ ?_); (case ee_ => first | rfl | assumption); (case ff_ => first | rfl | assumption))
  | with_reducible refine o_slF ?_
  | with_reducible refine o_slL ?_
  | with_reducible refine o_slT ?_
  | with_reducible refine s_dnT ?_
  | with_reducible refine s_dnK ?_
  | with_reducible refine o_neP ?_
  | with_reducible refine o_neC ?_
  | ((with_reducible refine' o_fld ?ee_ ?_); (case ee_ => rfl))
  | with_reducible refine o_lenI ?_
  | with_reducible refine o_lenL ?_
  | with_reducible refine o_lenT ?_
  | with_reducible refine o_lenF ?_
  | with_reducible refine o_lenD ?_
  | with_reducible refine o_int ?_
  | with_reducible refine o_abs ?_
  | with_reducible refine o_max ?_
  | with_reducible refine o_min ?_
  | with_reducible refine o_list ?_
  | ((with_reducible refine' o_inT ?ee_ ?_); (case ee_ => rfl))
  | ((with_reducible refine' o_ninT ?ee_ ?_); (case ee_ => rfl))
  | with_reducible refine o_neg ?_
  | ((with_reducible refine' o_inF ?ee_ ?_); (case ee_ => rfl))
  | ((with_reducible refine' o_ninF ?ee_ ?_); (case ee_ => rfl))
  | with_reducible refine s_tup ?_
  | with_reducible refine s_lst ?_
  | with_reducible refine s_un ?_
  | with_reducible refine s_cl ?_
  | with_reducible refine s_test ?_
  | with_reducible refine s_and ?_
  | with_reducible refine s_or ?_
  | with_reducible refine s_not ?_
  | with_reducible refine s_andV ?_
  | with_reducible refine s_orV ?_
  | with_reducible refine s_notV ?_
  | with_reducible refine s_ifV ?_
  | with_reducible refine s_chain ?_
  | with_reducible refine x_ib ?_
  | with_reducible refine s_pN ?_
  | with_reducible refine s_pS ?_
  | with_reducible refine s_sl ?_
  | with_reducible refine s_sameL ?_
  | with_reducible refine o_isNB ?_
  | with_reducible refine s_fz ?_
  | with_reducible refine o_ixH ?_
  | ((with_reducible refine' x_noa ?ee_ ?_); (case ee_ => rfl))
  | ((with_reducible refine' x_lenN ?ee_ ?ff_ ?_); (case ee_ => omega); (case ff_ => omega))
  | ((with_reducible refine' x_le1000 ?ee_ ?_); (case ee_ => rfl))
  | with_reducible refine s_call ?_
  | ((with_reducible refine' x_con ?ee_ ?ff_ ?_); (case ee_ => rfl); (case ff_ => rfl))
  | ((with_reducible refine' s_callD ?ee_ ?ff_ ?_); (case ee_ => rfl); (case ff_ => rfl))
  | ((with_reducible refine' x_back ?ll_ ?ee_ ?_); (case ll_ => rfl); (case ee_ => rfl))
  | ((with_reducible refine' x_back1 ?ee_ ?_); (case ee_ => rfl))
  | with_reducible refine s_gaN ?_
  | with_reducible refine s_gaV ?_
  | ((with_reducible refine' s_gaR ?ee_ ?_); (case ee_ => rfl))
  | with_reducible refine s_meth ?_
  | with_reducible refine s_meth0 ?_
  | with_reducible refine s_methK ?_
  | with_reducible refine s_makeK ?_
  | ((with_reducible refine' x_frzsK ?ee_ ?ll_ ?_); (case ee_ => rfl); (case ll_ => rfl))
  | with_reducible refine s_prop ?_
  | with_reducible refine s_make ?_
  | with_reducible refine s_own2 ?_
  | with_reducible refine s_eqX ?_
  | with_reducible refine s_neX ?_
  | with_reducible refine s_rev ?_
  | with_reducible refine x_nb ?_
  | ((with_reducible refine' x_rev ?ee_ ?ff_ ?_); (case ee_ => rfl); (case ff_ => rfl))
  | with_reducible refine s_lenO ?_
  | ((with_reducible refine' s_mut ?ee_ ?_); (case ee_ => rfl))
  | ((with_reducible refine' x_mut ?ee_ ?ff_ ?_); (case ee_ => rfl); (case ff_ => rfl))
  | ((with_reducible refine' s_mut0 ?ee_ ?_); (case ee_ => rfl))
  | with_reducible refine m_clr ?_
  | with_reducible refine m_rev ?_
  | with_reducible refine s_dget ?_
  | with_reducible refine s_dget1 ?_
  | with_reducible refine s_dget2 ?_
  | ((with_reducible refine' x_isT ?ee_ ?_); (case ee_ => rfl))
  | ((with_reducible refine' x_isK ?ee_ ?_); (case ee_ => rfl))
  | ((with_reducible refine' x_get2 ?ee_ ?ff_ ?gg_ ?_); (case ee_ => rfl); (case ff_ => rfl); (case gg_ => rfl))
  | with_reducible refine s_din ?_
  | with_reducible refine s_dnin ?_
  | ((with_reducible refine' s_lookT ?ee_ ?_); (case ee_ => rfl))
  | ((with_reducible refine' s_lookK ?ee_ ?_); (case ee_ => rfl))
  | with_reducible refine s_seq ?_
  | with_reducible refine s_set ?_
  | with_reducible refine s_ret ?_
  | with_reducible refine s_retN ?_
  | with_reducible refine s_if ?_
  | with_reducible refine s_next ?_
  | with_reducible refine s_drop ?_
  | with_reducible refine s_brk ?_
  | with_reducible refine s_cnt ?_
  | with_reducible refine s_asg ?_
  | with_reducible refine s_raise ?_
  | with_reducible refine s_setIx ?_
  | ((with_reducible refine' s_gN ?ee_ ?_); (case ee_ => rfl))
  | with_reducible refine s_gNl ?_
  | with_reducible refine s_gCn ?_
  | ((with_reducible refine' s_gT ?ee_ ?_); (case ee_ => rfl))
  | ((with_reducible refine' s_gL ?ee_ ?_); (case ee_ => rfl))
  | with_reducible refine s_for ?_
  | with_reducible refine s_wSeq ?_
  | ((with_reducible refine' x_items ?ee_ ?ff_ ?_); (case ee_ => rfl); (case ff_ => rfl))
  | with_reducible refine s_rng1 ?_
  | ((with_reducible refine' x_rng1 ?ee_ ?aa_ ?bb_ ?_); (case ee_ => rfl); (case aa_ => omega); (case bb_ => omega))
  | with_reducible refine s_rng2 ?_
  | ((with_reducible refine' x_rng2 ?ee_ ?aa_ ?_); (case ee_ => rfl); (case aa_ => exact ⟨by omega, by omega, by omega, by omega⟩))
  | with_reducible refine s_enum ?_
  | ((with_reducible refine' x_enum ?ee_ ?_); (case ee_ => rfl))
  | with_reducible refine s_lc ?_
  | with_reducible refine s_lcG ?_
  | ((with_reducible refine' s_lcV ?ee_ ?ff_ ?_); (case ee_ => rfl); (case ff_ => rfl))
  | ((with_reducible refine' s_forV ?ee_ ?_); (case ee_ => rfl))
  | with_reducible refine isi_bl_bool ?_
  | with_reducible refine isi_bl_int ?_
  | with_reducible refine isi_bl_str ?_
  | with_reducible refine isi_bl_list ?_
  | with_reducible refine isi_bl_tuple ?_
  | with_reducible refine isi_int_bool ?_
  | with_reducible refine isi_int_int ?_
  | with_reducible refine isi_int_str ?_
  | with_reducible refine isi_int_list ?_
  | with_reducible refine isi_int_tuple ?_
  | with_reducible refine isi_str_bool ?_
  | with_reducible refine isi_str_int ?_
  | with_reducible refine isi_str_str ?_
  | with_reducible refine isi_str_list ?_
  | with_reducible refine isi_str_tuple ?_
  | with_reducible refine isi_lst_bool ?_
  | with_reducible refine isi_lst_int ?_
  | with_reducible refine isi_lst_str ?_
  | with_reducible refine isi_lst_list ?_
  | with_reducible refine isi_lst_tuple ?_
  | with_reducible refine isi_tup_bool ?_
  | with_reducible refine isi_tup_int ?_
  | with_reducible refine isi_tup_str ?_
  | with_reducible refine isi_tup_list ?_
  | with_reducible refine isi_tup_tuple ?_
  | with_reducible refine isi_non_bool ?_
  | with_reducible refine isi_non_int ?_
  | with_reducible refine isi_non_str ?_
  | with_reducible refine isi_non_list ?_
  | with_reducible refine isi_non_tuple ?_
  | ((with_reducible refine' o_rep1 ?aa_ ?_); (case aa_ => exact ⟨by omega, by omega⟩))
  | ((with_reducible refine' o_eqIs ?aa_ ?bb_ ?_); (case aa_ => first | omega | (simp only [List.length_map, List.length_range, List.length_replicate]; omega)); (case bb_ => first | omega | (simp only [List.length_map, List.length_range, List.length_replicate]; omega)))
  | with_reducible refine o_intB ?_
  | ((with_reducible refine' o_neIs ?aa_ ?bb_ ?_); (case aa_ => first | omega | (simp only [List.length_map, List.length_range, List.length_replicate]; omega)); (case bb_ => first | omega | (simp only [List.length_map, List.length_range, List.length_replicate]; omega)))
  | with_reducible refine s_par ?_
  | ((with_reducible refine' x_par ?ee_ ?ff_ ?gg_ ?_); (case ee_ => rfl); (case ff_ => rfl); (case gg_ => rfl))
  | with_reducible refine s_rng1L ?_
  | ((with_reducible refine' x_rng1L ?ee_ ?_); (case ee_ => rfl))
  | with_reducible refine s_rng2L ?_
  | ((with_reducible refine' x_rng2L ?ee_ ?_); (case ee_ => rfl))
  | with_reducible refine s_fset ?_
  | ((with_reducible refine' x_fset ?ee_ ?ff_ ?gg_ ?_); (case ee_ => rfl); (case ff_ => rfl); (case gg_ => rfl))
  | with_reducible refine s_tryG ?_
  | ((with_reducible refine' s_xv ?ee_ ?ff_ ?gg_ ?_); (case ee_ => rfl); (case ff_ => assumption); (case gg_ => assumption))
  | ((with_reducible refine' s_xis ?ee_ ?ff_ ?_); (case ee_ => rfl); (case ff_ => assumption))
  | ((with_reducible refine' x_xis ?ee_ ?ff_ ?_); (case ee_ => rfl); (case ff_ => assumption))
  | ((with_reducible refine' x_clear ?ee_ ?_); (case ee_ => rfl))
  | with_reducible refine s_yes ?_
  | ((with_reducible refine' s_end ?ee_ ?bb_ ?_); (case ee_ => rfl); (case bb_ => walk_at "bk"))
  | ((with_reducible refine' x_pxT ?ee_ ?_); (case ee_ => assumption))
  | with_reducible refine x_got rfl ?_
  | with_reducible refine x_in0 ?_
  | with_reducible refine x_inS ?_
  | ((with_reducible refine' s_gVal ?ee_ ?_); (case ee_ => rfl))
  | ((with_reducible refine' s_gTag ?ee_ ?_); (case ee_ => rfl))
  | ((with_reducible refine' x_px ?bb_ ?_); (case bb_ => walk_at "bk"))
  | ((with_reducible refine' s_endN ?bb_ ?_); (case bb_ => walk_at "bk"))
  | with_reducible refine iteT ?_
  | with_reducible refine iteF ?_
  | with_reducible refine r_iteNf ?_
  | with_reducible refine r_iteNt ?_)
local macro_rules | `(tactic| walk_at "ds") => `(tactic| (repeat' (walk_at "ds1")))
set_option hygiene false in
local macro_rules | `(tactic| walk_at "dx") => `(tactic| (repeat' (first | walk_at "ds1" | with_reducible refine (fun (a : Addr) => ?_ : ∀ _ : Addr, _) | with_reducible refine ite_d (fun c => ?_) (fun c => ?_) | with_reducible refine ite_nd (fun c => ?_) (fun c => ?_) | with_reducible refine ite_nb (fun c => ?_) (fun c => ?_) | with_reducible refine ite_b (fun c => ?_) (fun c => ?_))))
set_option hygiene false in
local macro_rules | `(tactic| walk_at "dy") => `(tactic| (repeat' (first | walk_at "ds1" | with_reducible refine (fun (a : Addr) => ?_ : ∀ _ : Addr, _))))
/-! ### the strips' own comparison, of things that are equal -/
theorem okDs_get' {n : Nat} : ∀ {ds : List D} {i : Nat} {d : D}, okDs n (toPys ds) = true → ds[i]? = some d → okD n (toPy d) = true
  | [], i, d, _, e => by simp at e
  | x :: xs, 0, d, h, e => by
    rw [toPys, okDs, Bool.and_eq_true] at h
    simp at e
    subst e
    exact h.1
  | x :: xs, i + 1, d, h, e => by
    rw [toPys, okDs, Bool.and_eq_true] at h
    exact okDs_get' (i := i) h.2 (by simpa using e)
def plainD : D → Bool
  | .non | .bl _ | .int _ | .str _ | .lst _ | .tup _ => true
  | _ => false
mutual
/-- None, truths, ints, texts, lists and tuples of such, n deep -/
def okS : Nat → D → Bool
  | _, .non => true
  | _, .bl _ => true
  | _, .int _ => true
  | _, .str _ => true
  | n + 1, .lst ds => decide (ds.length ≤ 1000000) && okSs n ds
  | n + 1, .tup ds => decide (ds.length ≤ 1000000) && okSs n ds
  | _, _ => false
def okSs : Nat → List D → Bool
  | _, [] => true
  | n, d :: ds => okS n d && okSs n ds
end
theorem okSs_get {n : Nat} : ∀ {ds : List D} {i : Nat} {d : D}, okSs n ds = true → ds[i]? = some d → okS n d = true
  | [], i, d, _, e => by simp at e
  | x :: xs, 0, d, h, e => by
    rw [okSs, Bool.and_eq_true] at h
    simp at e
    subst e
    exact h.1
  | x :: xs, i + 1, d, h, e => by
    rw [okSs, Bool.and_eq_true] at h
    exact okSs_get (i := i) h.2 (by simpa using e)
theorem okSs_ints (n : Nat) : ∀ ns : List Int, okSs n (ns.map D.int) = true
  | [] => rfl
  | i :: ns => by rw [List.map_cons, okSs, okSs_ints n ns]; rfl
theorem okS_ints (n : Nat) {ns : List Int} (h : ns.length ≤ 1000000) : okS (n + 1) (intsD ns) = true := by
  rw [okS, Bool.and_eq_true]
  exact ⟨decide_eq_true (by rw [List.length_map]; exact h), okSs_ints n ns⟩
def conS : Nat → Con
  | 0 => fun _ _ _ => False
  | n + 1 => fun es P _ => ∃ (c : D), es = [.imm c, .imm c] ∧ okS n c = true ∧ P (.imm (.bl true)) es
theorem ixN_at' {n i : Nat} (h : i < n) : ixN n (0 + (i : Int)) = some i := by
  unfold ixN
  rw [Int.zero_add]
  simp
  omega
theorem rngD_ix {n i : Nat} {c : D} {ds : List D} (hl : n = ds.length) (hc : (rngD 0 1 n)[i]? = some c) : i < ds.length ∧ c = .int (0 + (i : Int)) ∧ ∃ d, ds[i]? = some d ∧ ixN ds.length (0 + (i : Int)) = some i := by
  obtain ⟨hi, rfl⟩ := rng_get hc
  rw [hl] at hi
  exact ⟨hi, rfl, ds[i], List.getElem?_eq_getElem hi, ixN_at' hi⟩
section
variable {P : Program} {w : World} {K : PySem.W.Frag} {mg : Str → Option Value} {base : Heap} {A : Ad}
theorem same_all (T : Txt K mg A) : ∀ n, FnOk P w K mg base (L2.CX P w) (n + 1) A.f__law_same A.d__law_same P__law_same (spD K (conS n))
  | 0 => ⟨fun _ _ _ _ ⟨_, _, _, _, _, _, h, _⟩ => h.elim, fun _ _ _ _ _ _ _ _ _ _ _ _ _ ⟨_, _, _, _, _, _, h, _⟩ => h.elim⟩
  | n + 1 => by
    have G__law_same := same_all T n
    refine okD_fn (con := conS (n + 1)) T.F__law_same sc__law_same (fun es P PX h => ?_) (fun cdv A' outer s H I E es R PX hr fo hc => ?_)
    · obtain ⟨c, rfl, _⟩ := h
      rfl
    · obtain ⟨c, rfl, ok, hP⟩ := hc
      have hu := hu_of hr
      refine ⟨_, (dss_cons (ds_if (dt_cmp dor_is (dv 1) de_non (nomark _))
(dss_one (ds_ret (de_cmp dor_is (dv 0) de_non (nomark _))))
dss_nil)
(dss_cons (ds_if (dt_val (de_blt dcr_isi (by rfl) T.n_isinstance (by decide +kernel) (da_cons (dv 1) (da_cons (de_bltn (n := "bool") (by rfl) T.n_bool (by decide +kernel)) da_nil))))
(dss_one (ds_ret (de_and (de_blt dcr_isi (by rfl) T.n_isinstance (by decide +kernel) (da_cons (dv 0) (da_cons (de_bltn (n := "bool") (by rfl) T.n_bool (by decide +kernel)) da_nil))) (de_one (de_cmp (dor_eq hr.units) (dv 0) (dv 1) (nomark _))))))
dss_nil)
(dss_cons (ds_if (dt_val (de_blt dcr_isi (by rfl) T.n_isinstance (by decide +kernel) (da_cons (dv 1) (da_cons (de_bltn (n := "int") (by rfl) T.n_int (by decide +kernel)) da_nil))))
(dss_one (ds_ret (de_and (de_blt dcr_isi (by rfl) T.n_isinstance (by decide +kernel) (da_cons (dv 0) (da_cons (de_bltn (n := "int") (by rfl) T.n_int (by decide +kernel)) da_nil))) (de_and (de_not (de_blt dcr_isi (by rfl) T.n_isinstance (by decide +kernel) (da_cons (dv 0) (da_cons (de_bltn (n := "bool") (by rfl) T.n_bool (by decide +kernel)) da_nil)))) (de_one (de_cmp (dor_eq hr.units) (dv 0) (dv 1) (nomark _)))))))
dss_nil)
(dss_cons (ds_if (dt_val (de_blt dcr_isi (by rfl) T.n_isinstance (by decide +kernel) (da_cons (dv 1) (da_cons (de_bltn (n := "str") (by rfl) T.n_str (by decide +kernel)) da_nil))))
(dss_one (ds_ret (de_and (de_blt dcr_isi (by rfl) T.n_isinstance (by decide +kernel) (da_cons (dv 0) (da_cons (de_bltn (n := "str") (by rfl) T.n_str (by decide +kernel)) da_nil))) (de_one (de_cmp (dor_eq hr.units) (dv 0) (dv 1) (nomark _))))))
dss_nil)
(dss_cons (ds_if (dt_w (dw_and (dt_val (de_blt dcr_isi (by rfl) T.n_isinstance (by decide +kernel) (da_cons (dv 1) (da_cons (de_bltn (n := "list") (by rfl) T.n_list (by decide +kernel)) da_nil)))) (dw_and1 (dt_not (dt_val (de_blt dcr_isi (by rfl) T.n_isinstance (by decide +kernel) (da_cons (dv 0) (da_cons (de_bltn (n := "list") (by rfl) T.n_list (by decide +kernel)) da_nil))))))))
(dss_one (ds_ret de_bl))
dss_nil)
(dss_cons (ds_if (dt_w (dw_and (dt_val (de_blt dcr_isi (by rfl) T.n_isinstance (by decide +kernel) (da_cons (dv 1) (da_cons (de_bltn (n := "tuple") (by rfl) T.n_tuple (by decide +kernel)) da_nil)))) (dw_and1 (dt_not (dt_val (de_blt dcr_isi (by rfl) T.n_isinstance (by decide +kernel) (da_cons (dv 0) (da_cons (de_bltn (n := "tuple") (by rfl) T.n_tuple (by decide +kernel)) da_nil))))))))
(dss_one (ds_ret de_bl))
dss_nil)
(dss_cons (ds_if (dt_cmp (dor_ne hr.units) (de_blt dcr_len (by rfl) T.n_len (by decide +kernel) (da_cons (dv 0) da_nil)) (de_blt dcr_len (by rfl) T.n_len (by decide +kernel) (da_cons (dv 1) da_nil)) (nomark _))
(dss_one (ds_ret de_bl))
dss_nil)
(dss_one (ds_ret (de_blt (dcr_all rfl) (by rfl) T.n_all (by decide +kernel) (da_cons (de_lc (own := [("_law_k", 2)]) (by rfl) sc__law_same.nd (di_rng1 (by rfl) T.n_range (da_cons (de_blt dcr_len (by rfl) T.n_len (by decide +kernel) (da_cons (dv 1) da_nil)) da_nil)) (blkOk_by (own := [("_law_k", 2)]) (N := N__law_same) (sc := defScope s__law_same) (by decide +kernel)) (fun _ _ _ _ _ => by exact (dg_name (i := 2) sc__law_same.nd rfl (Or.inl rfl))) (fun _ _ _ _ _ => by exact dts_nil) (fun _ _ _ _ _ => by exact (de_call G__law_same (hr.mono (by first | decide | omega)) rfl T.g__law_same T.k__law_same T.b__law_same takes0 frok_nox (dg_v (de_ix dix (dv 0) (dv 2)) (dg_v (de_ix dix (dv 1) (dv 2)) dg_nil)))) (by rfl)) da_nil))))))))))), ?_⟩
      have ht : ∀ b : Bool, b = true → (if b = true then True else False) := fun b h => by rw [if_pos h]; trivial
      cases c with
      | non =>
        walk_at "dx"
        exact hP
      | bl b =>
        walk_at "dx"
        rw [decide_eq_true (rfl : b = b)]
        exact hP
      | int b =>
        walk_at "dx"
        rw [decide_eq_true (rfl : b = b)]
        exact hP
      | str b =>
        walk_at "dx"
        rw [decide_eq_true (rfl : b = b)]
        exact hP
      | lst ds =>
        cases n with
        | zero => simp [okS] at ok
        | succ n =>
        rw [okS, Bool.and_eq_true] at ok
        obtain ⟨hz, ok⟩ := ok
        have hz := of_decide_eq_true hz
        walk_at "dx"
        · exact absurd rfl c
        refine ⟨by rw [rngD_len]; omega, fun i acc => acc = List.replicate i (.bl true), rfl, ?_, ?_⟩
        · rintro i d acc hd rfl
          obtain ⟨hi, rfl, q, hq, hx⟩ := rngD_ix (ds := ds) (by omega) hd
          have hxx := hx
          walk_at "dx"
          refine ⟨q, rfl, okSs_get ok hq, ?_⟩
          walk_at "dx"
          exact ⟨rfl, List.replicate_succ'.symm⟩
        · rintro acc rfl
          walk_at "dx"
          refine ⟨List.replicate (rngD 0 1 (ds.length : Int).toNat).length true, by rw [List.map_replicate], ?_⟩
          rw [List.all_replicate]
          walk_at "dx"
          simpa using hP
      | tup ds =>
        cases n with
        | zero => simp [okS] at ok
        | succ n =>
        rw [okS, Bool.and_eq_true] at ok
        obtain ⟨hz, ok⟩ := ok
        have hz := of_decide_eq_true hz
        walk_at "dx"
        · exact absurd rfl c
        refine ⟨by rw [rngD_len]; omega, fun i acc => acc = List.replicate i (.bl true), rfl, ?_, ?_⟩
        · rintro i d acc hd rfl
          obtain ⟨hi, rfl, q, hq, hx⟩ := rngD_ix (ds := ds) (by omega) hd
          have hxx := hx
          walk_at "dx"
          refine ⟨q, rfl, okSs_get ok hq, ?_⟩
          walk_at "dx"
          exact ⟨rfl, List.replicate_succ'.symm⟩
        · rintro acc rfl
          walk_at "dx"
          refine ⟨List.replicate (rngD 0 1 (ds.length : Int).toNat).length true, by rw [List.map_replicate], ?_⟩
          rw [List.all_replicate]
          walk_at "dx"
          simpa using hP
      | _ => cases n <;> simp [okS] at ok
theorem okd__law_same (T : Txt K mg A) : FnOk P w K mg base (L2.CX P w) 9 A.f__law_same A.d__law_same P__law_same (spD K (conS 8)) := same_all T 8
end

end

section
local macro_rules | `(tactic| walk_at "al") => `(tactic| first
  | omega
  | exact Or.inl (Or.inl ⟨by omega, by omega⟩)
  | exact Or.inl (Or.inr ⟨by omega, by omega⟩)
  | exact ⟨by omega, Or.inl (by omega)⟩
  | exact ⟨by omega, by omega, by omega, by omega⟩
  | exact ⟨by decide, by decide, by decide⟩)
local macro_rules | `(tactic| walk_at "bk") => `(tactic| repeat (first | exact BackE.nil | apply BackE.imm | apply BackE.own | apply BackE.hand))
local macro_rules | `(tactic| walk_at "ds1") => `(tactic| first
  | ((with_reducible refine' s_vi ?ee_ ?_); (case ee_ => rfl))
  | ((with_reducible refine' s_vs ?ee_ ?_); (case ee_ => rfl))
  | with_reducible refine s_c ?_
  | with_reducible refine s_aN ?_
  | with_reducible refine s_aC ?_
  | with_reducible refine s_op ?_
  | ((with_reducible refine' x_val2 ?ee_ ?ff_ ?_); (case ee_ => rfl); (case ff_ => rfl))
  | ((with_reducible refine' x_bl ?ee_ ?_); (case ee_ => rfl))
  | ((with_reducible refine' x_int ?ee_ ?_); (case ee_ => rfl))
  | ((with_reducible refine' x_val ?ee_ ?_); (case ee_ => rfl))
  | ((with_reducible refine' x_vals ?ee_ ?_); (case ee_ => rfl))
  | ((with_reducible refine' x_frzs ?ee_ ?ll_ ?_); (case ee_ => rfl); (case ll_ => rfl))
  | ((with_reducible refine' x_frzO ?ee_ ?_); (case ee_ => rfl))
  | ((with_reducible refine' x_frz2 ?ee_ ?ff_ ?_); (case ee_ => rfl); (case ff_ => rfl))
  | ((with_reducible refine' x_frz ?ee_ ?_); (case ee_ => rfl))
  | ((with_reducible refine' x_asg ?ee_ ?_); (case ee_ => rfl))
  | with_reducible refine o_addI ?_
  | with_reducible refine o_subI ?_
  | ((with_reducible refine' o_mulI ?cc_ ?_); (case cc_ => walk_at "al"))
  | ((with_reducible refine' o_divI ?cc_ ?_); (case cc_ => walk_at "al"))
  | ((with_reducible refine' o_modI ?cc_ ?_); (case cc_ => walk_at "al"))
  | ((with_reducible refine' o_powI ?cc_ ?_); (case cc_ => walk_at "al"))
  | with_reducible refine o_andI ?_
  | with_reducible refine o_ltI ?_
  | with_reducible refine o_leI ?_
  | with_reducible refine o_gtI ?_
  | with_reducible refine o_geI ?_
  | with_reducible refine o_eqI ?_
  | with_reducible refine o_eqS ?_
  | with_reducible refine o_eqP ?_
  | with_reducible refine o_neI ?_
  | with_reducible refine o_neS ?_
  | with_reducible refine o_isN_non ?_
  | with_reducible refine o_notN_non ?_
  | with_reducible refine o_isN_bl ?_
  | with_reducible refine o_notN_bl ?_
  | with_reducible refine o_isN_int ?_
  | with_reducible refine o_notN_int ?_
  | with_reducible refine o_isN_str ?_
  | with_reducible refine o_notN_str ?_
  | with_reducible refine o_isN_lst ?_
  | with_reducible refine o_notN_lst ?_
  | with_reducible refine o_isN_tup ?_
  | with_reducible refine o_notN_tup ?_
  | with_reducible refine o_isN_obj ?_
  | with_reducible refine o_notN_obj ?_
  | with_reducible refine o_eqB ?_
  | with_reducible refine o_isN' ?_
  | with_reducible refine o_isB' ?_
  | with_reducible refine o_notN' ?_
  | ((with_reducible refine' o_ixT ?ee_ ?ff_ ?_); (case ee_ => first | rfl | assumption); (case ff_ => first | rfl | assumption))
  | ((with_reducible refine' ixI ?aa_ ?bb_ ?_); (case aa_ => omega); (case bb_ => omega))
  | ((with_reducible refine' o_ixL ?ee_ ?ff_ ?_); (case ee_ => first | rfl | assumption); (case ff_ => first | rfl | assumption))
  | with_reducible refine o_slF ?_
  | with_reducible refine o_slL ?_
  | with_reducible refine o_slT ?_
  | with_reducible refine s_dnT ?_
  | with_reducible refine s_dnK ?_
  | with_reducible refine o_neP ?_
  | with_reducible refine o_neC ?_
  | ((with_reducible refine' o_fld ?ee_ ?_); (case ee_ => rfl))
  | with_reducible refine o_lenI ?_
  | with_reducible refine o_lenL ?_
  | with_reducible refine o_lenT ?_
  | with_reducible refine o_lenF ?_
  | with_reducible refine o_lenD ?_
  | with_reducible refine o_int ?_
  | with_reducible refine o_abs ?_
  | with_reducible refine o_max ?_
  | with_reducible refine o_min ?_
  | with_reducible refine o_list ?_
  | ((with_reducible refine' o_inT ?ee_ ?_); (case ee_ => rfl))
  | ((with_reducible refine' o_ninT ?ee_ ?_); (case ee_ => rfl))
  | with_reducible refine o_neg ?_
  | ((with_reducible refine' o_inF ?ee_ ?_); (case ee_ => rfl))
  | ((with_reducible refine' o_ninF ?ee_ ?_); (case ee_ => rfl))
  | with_reducible refine s_tup ?_
  | with_reducible refine s_lst ?_
  | with_reducible refine s_un ?_
  | with_reducible refine s_cl ?_
  | with_reducible refine s_test ?_
  | with_reducible refine s_and ?_
  | with_reducible refine s_or ?_
  | with_reducible refine s_not ?_
  | with_reducible refine s_andV ?_
  | with_reducible refine s_orV ?_
  | with_reducible refine s_notV ?_
  | with_reducible refine s_ifV ?_
  | with_reducible refine s_chain ?_
  | with_reducible refine x_ib ?_
  | with_reducible refine s_pN ?_
  | with_reducible refine s_pS ?_
  | with_reducible refine s_sl ?_
  | with_reducible refine s_sameL ?_
  | with_reducible refine o_isNB ?_
  | with_reducible refine s_fz ?_
  | with_reducible refine o_ixH ?_
  | ((with_reducible refine' x_noa ?ee_ ?_); (case ee_ => rfl))
  | ((with_reducible refine' x_lenN ?ee_ ?ff_ ?_); (case ee_ => omega); (case ff_ => omega))
  | ((with_reducible refine' x_le1000 ?ee_ ?_); (case ee_ => rfl))
  | with_reducible refine s_call ?_
  | ((with_reducible refine' x_con ?ee_ ?ff_ ?_); (case ee_ => rfl); (case ff_ => rfl))
  | ((with_reducible refine' s_callD ?ee_ ?ff_ ?_); (case ee_ => rfl); (case ff_ => rfl))
  | ((with_reducible refine' x_back ?ll_ ?ee_ ?_); (case ll_ => rfl); (case ee_ => rfl))
  | ((with_reducible refine' x_back1 ?ee_ ?_); (case ee_ => rfl))
  | with_reducible refine s_gaN ?_
  | with_reducible refine s_gaV ?_
  | ((with_reducible refine' s_gaR ?ee_ ?_); (case ee_ => rfl))
  | with_reducible refine s_meth ?_
  | with_reducible refine s_meth0 ?_
  | with_reducible refine s_methK ?_
  | with_reducible refine s_makeK ?_
  | ((with_reducible refine' x_frzsK ?ee_ ?ll_ ?_); (case ee_ => rfl); (case ll_ => rfl))
  | with_reducible refine s_prop ?_
  | with_reducible refine s_make ?_
  | with_reducible refine s_own2 ?_
  | with_reducible refine s_eqX ?_
  | with_reducible refine s_neX ?_
  | with_reducible refine s_rev ?_
  | with_reducible refine x_nb ?_
  | ((with_reducible refine' x_rev ?ee_ ?ff_ ?_); (case ee_ => rfl); (case ff_ => rfl))
  | with_reducible refine s_lenO ?_
  | ((with_reducible refine' s_mut ?ee_ ?_); (case ee_ => rfl))
  | ((with_reducible refine' x_mut ?ee_ ?ff_ ?_); (case ee_ => rfl); (case ff_ => rfl))
  | ((with_reducible refine' s_mut0 ?ee_ ?_); (case ee_ => rfl))
  | with_reducible refine m_clr ?_
  | with_reducible refine m_rev ?_
  | with_reducible refine s_dget ?_
  | with_reducible refine s_dget1 ?_
  | with_reducible refine s_dget2 ?_
  | ((with_reducible refine' x_isT ?ee_ ?_); (case ee_ => rfl))
  | ((with_reducible refine' x_isK ?ee_ ?_); (case ee_ => rfl))
  | ((with_reducible refine' x_get2 ?ee_ ?ff_ ?gg_ ?_); (case ee_ => rfl); (case ff_ => rfl); (case gg_ => rfl))
  | with_reducible refine s_din ?_
  | with_reducible refine s_dnin ?_
  | ((with_reducible refine' s_lookT ?ee_ ?_); (case ee_ => rfl))
  | ((with_reducible refine' s_lookK ?ee_ ?_); (case ee_ => rfl))
  | with_reducible refine s_seq ?_
  | with_reducible refine s_set ?_
  | with_reducible refine s_ret ?_
  | with_reducible refine s_retN ?_
  | with_reducible refine s_if ?_
  | with_reducible refine s_next ?_
  | with_reducible refine s_drop ?_
  | with_reducible refine s_brk ?_
  | with_reducible refine s_cnt ?_
  | with_reducible refine s_asg ?_
  | with_reducible refine s_raise ?_
  | with_reducible refine s_setIx ?_
  | ((with_reducible refine' s_gN ?ee_ ?_); (case ee_ => rfl))
  | with_reducible refine s_gNl ?_
  | with_reducible refine s_gCn ?_
  | ((with_reducible refine' s_gT ?ee_ ?_); (case ee_ => rfl))
  | ((with_reducible refine' s_gL ?ee_ ?_); (case ee_ => rfl))
  | with_reducible refine s_for ?_
  | with_reducible refine s_wSeq ?_
  | ((with_reducible refine' x_items ?ee_ ?ff_ ?_); (case ee_ => rfl); (case ff_ => rfl))
  | with_reducible refine s_rng1 ?_
  | ((with_reducible refine' x_rng1 ?ee_ ?aa_ ?bb_ ?_); (case ee_ => rfl); (case aa_ => omega); (case bb_ => omega))
  | with_reducible refine s_rng2 ?_
  | ((with_reducible refine' x_rng2 ?ee_ ?aa_ ?_); (case ee_ => rfl); (case aa_ => exact ⟨by omega, by omega, by omega, by omega⟩))
  | with_reducible refine s_enum ?_
  | ((with_reducible refine' x_enum ?ee_ ?_); (case ee_ => rfl))
  | with_reducible refine s_lc ?_
  | with_reducible refine s_lcG ?_
  | ((with_reducible refine' s_lcV ?ee_ ?ff_ ?_); (case ee_ => rfl); (case ff_ => rfl))
  | ((with_reducible refine' s_forV ?ee_ ?_); (case ee_ => rfl))
  | with_reducible refine isi_bl_bool ?_
  | with_reducible refine isi_bl_int ?_
  | with_reducible refine isi_bl_str ?_
  | with_reducible refine isi_bl_list ?_
  | with_reducible refine isi_bl_tuple ?_
  | with_reducible refine isi_int_bool ?_
  | with_reducible refine isi_int_int ?_
  | with_reducible refine isi_int_str ?_
  | with_reducible refine isi_int_list ?_
  | with_reducible refine isi_int_tuple ?_
  | with_reducible refine isi_str_bool ?_
  | with_reducible refine isi_str_int ?_
  | with_reducible refine isi_str_str ?_
  | with_reducible refine isi_str_list ?_
  | with_reducible refine isi_str_tuple ?_
  | with_reducible refine isi_lst_bool ?_
  | with_reducible refine isi_lst_int ?_
  | with_reducible refine isi_lst_str ?_
  | with_reducible refine isi_lst_list ?_
  | with_reducible refine isi_lst_tuple ?_
  | with_reducible refine isi_tup_bool ?_
  | with_reducible refine isi_tup_int ?_
  | with_reducible refine isi_tup_str ?_
  | with_reducible refine isi_tup_list ?_
  | with_reducible refine isi_tup_tuple ?_
  | with_reducible refine isi_non_bool ?_
  | with_reducible refine isi_non_int ?_
  | with_reducible refine isi_non_str ?_
  | with_reducible refine isi_non_list ?_
  | with_reducible refine isi_non_tuple ?_
  | ((with_reducible refine' o_rep1 ?aa_ ?_); (case aa_ => exact ⟨by omega, by omega⟩))
  | ((with_reducible refine' o_eqIs ?aa_ ?bb_ ?_); (case aa_ => first | omega | (simp only [List.length_map, List.length_range, List.length_replicate]; omega)); (case bb_ => first | omega | (simp only [List.length_map, List.length_range, List.length_replicate]; omega)))
  | with_reducible refine o_intB ?_
  | ((with_reducible refine' o_neIs ?aa_ ?bb_ ?_); (case aa_ => first | omega | (simp only [List.length_map, List.length_range, List.length_replicate]; omega)); (case bb_ => first | omega | (simp only [List.length_map, List.length_range, List.length_replicate]; omega)))
  | with_reducible refine s_par ?_
  | ((with_reducible refine' x_par ?ee_ ?ff_ ?gg_ ?_); (case ee_ => rfl); (case ff_ => rfl); (case gg_ => rfl))
  | with_reducible refine s_rng1L ?_
  | ((with_reducible refine' x_rng1L ?ee_ ?_); (case ee_ => rfl))
  | with_reducible refine s_rng2L ?_
  | ((with_reducible refine' x_rng2L ?ee_ ?_); (case ee_ => rfl))
  | with_reducible refine s_fset ?_
  | ((with_reducible refine' x_fset ?ee_ ?ff_ ?gg_ ?_); (case ee_ => rfl); (case ff_ => rfl); (case gg_ => rfl))
  | with_reducible refine s_tryG ?_
  | ((with_reducible refine' s_xv ?ee_ ?ff_ ?gg_ ?_); (case ee_ => rfl); (case ff_ => assumption); (case gg_ => assumption))
  | ((with_reducible refine' s_xis ?ee_ ?ff_ ?_); (case ee_ => rfl); (case ff_ => assumption))
  | ((with_reducible refine' x_xis ?ee_ ?ff_ ?_); (case ee_ => rfl); (case ff_ => assumption))
  | ((with_reducible refine' x_clear ?ee_ ?_); (case ee_ => rfl))
  | with_reducible refine s_yes ?_
  | ((with_reducible refine' s_end ?ee_ ?bb_ ?_); (case ee_ => rfl); (case bb_ => walk_at "bk"))
  | ((with_reducible refine' x_pxT ?ee_ ?_); (case ee_ => assumption))
  | with_reducible refine x_got rfl ?_
  | with_reducible refine x_in0 ?_
  | with_reducible refine x_inS ?_
  | ((with_reducible refine' s_gVal ?ee_ ?_); (case ee_ => rfl))
  | ((with_reducible refine' s_gTag ?ee_ ?_); (case ee_ => rfl))
  | ((with_reducible refine' x_px ?bb_ ?_); (case bb_ => walk_at "bk"))
  | ((with_reducible refine' s_endN ?bb_ ?_); (case bb_ => walk_at "bk"))
  | with_reducible refine iteT ?_
  | with_reducible refine iteF ?_
  | with_reducible refine r_iteNf ?_
  | with_reducible refine r_iteNt ?_)
local macro_rules | `(tactic| walk_at "ds") => `(tactic| (repeat' (walk_at "ds1")))
set_option hygiene false in
local macro_rules | `(tactic| walk_at "dx") => `(tactic| (repeat' (first | walk_at "ds1" | with_reducible refine (fun (a : Addr) => ?_ : ∀ _ : Addr, _) | with_reducible refine ite_d (fun c => ?_) (fun c => ?_) | with_reducible refine ite_nd (fun c => ?_) (fun c => ?_) | with_reducible refine ite_nb (fun c => ?_) (fun c => ?_) | with_reducible refine ite_b (fun c => ?_) (fun c => ?_))))
set_option hygiene false in
local macro_rules | `(tactic| walk_at "dy") => `(tactic| (repeat' (first | walk_at "ds1" | with_reducible refine (fun (a : Addr) => ?_ : ∀ _ : Addr, _))))
/-! ### courses over data -/
abbrev iD (d : D) : Option Ent := some (.imm d)
abbrev iI (i : Int) : Option Ent := some (.imm (.int i))
theorem mul_sm {i j : Int} (h : Sm i) (k : Sm j) : MulOk i j := .inr (by have := h.log; have := k.log; unfold CMulW; omega)
theorem cut_from {α : Type} {xs : List α} {z : Int} (h0 : 0 ≤ z) (h1 : z ≤ xs.length) : cutL xs (some z) none = xs.drop z.toNat := by
  unfold cutL HT.sIx
  dsimp only
  rw [if_neg (by omega), Nat.min_eq_left (by omega)]
  exact List.take_of_length_le (by rw [List.length_drop]; omega)
theorem cut_neg {α : Type} {xs : List α} {z : Int} (h0 : 0 < z) (h1 : z ≤ xs.length) : cutL xs (some (-z)) none = xs.drop (xs.length - z.toNat) := by
  unfold cutL HT.sIx
  dsimp only
  rw [if_pos (by omega), show (-z + (xs.length : Int)).toNat = xs.length - z.toNat by omega]
  exact List.take_of_length_le (by rw [List.length_drop]; omega)
theorem cut_take {α : Type} {xs : List α} {z : Int} (h0 : 0 ≤ z) : cutL xs none (some z) = xs.take z.toNat := by
  unfold cutL HT.sIx
  dsimp only
  rw [if_neg (by omega)]
  show xs.take (min z.toNat xs.length) = xs.take z.toNat
  rcases Nat.le_total z.toNat xs.length with h | h
  · rw [Nat.min_eq_left h]
  · rw [Nat.min_eq_right h, List.take_of_length_le (Nat.le_refl _), List.take_of_length_le h]
theorem cut_to {α : Type} {xs : List α} {z : Int} (h0 : 0 ≤ z) (h1 : z ≤ xs.length) : cutL xs none (some z) = xs.take z.toNat := by
  unfold cutL HT.sIx
  dsimp only
  rw [if_neg (by omega), Nat.min_eq_left (by omega)]
  rfl
abbrev crsF (s : Int) (told : List Int) (p : Nat) (r : Int) : List (Str × D) := [(("start" : Str), D.int s), (("told" : Str), intsD told), (("period" : Str), D.int p), (("rise" : Str), D.int r)]
abbrev crsD (C : Addr) (s : Int) (told : List Int) (p : Nat) (r : Int) : D := .obj C (crsF s told p r)
def conTail : Con := fun es P _ => ∃ (tail : List Int) (m k : Int), es = [.imm (intsD tail), .int m, .int k] ∧ tail ≠ [] ∧ tail.length ≤ 1000 ∧ 0 ≤ k ∧ Sm k ∧ Sm m ∧ P (.int (cval tail tail.length m k.toNat)) es
def Least (tail : List Int) (m : Int) (p : Nat) (r : Int) : Prop := 1 ≤ p ∧ p ∣ tail.length ∧ QP (cval tail tail.length m) p r 0 ∧ ∀ p', 1 ≤ p' → p' < p → p' ∣ tail.length → ¬ ∃ r', QP (cval tail tail.length m) p' r' 0
def conLeast : Con := fun es P _ => ∃ (tail : List Int) (m : Int), es = [.imm (intsD tail), .int m] ∧ tail ≠ [] ∧ tail.length ≤ 1000 ∧ Sm m ∧ ∀ (p : Nat) (r : Int), Least tail m p r → P (.imm (.tup [.int p, .int r])) es
/-- a list of ints, one's own or not -/
def IsInts (t : Ent) (row : List Int) : Prop := t = .imm (intsD row) ∨ ∃ a, t = .own a (intsD row)
def conFew : Con := fun es P _ => ∃ (t : Ent) (row : List Int) (p : Nat) (r : Int) (v : Nat → Int), es = [t, .int p, .int r] ∧ IsInts t row ∧ 1 ≤ p ∧ p ≤ row.length ∧ row = (List.range row.length).map v ∧ QP v p r (row.length - p) ∧
  ∀ (n : Nat) (l : Addr), p ≤ n → n ≤ row.length → QP v p r (n - p) → (n = p ∨ v (n - 1) ≠ v (n - 1 - p) + r) → P (.own l (intsD ((List.range n).map v))) es
section
variable {P : Program} {w : World} {K : PySem.W.Frag} {mg : Str → Option Value} {base : Heap} {A : Ad}
theorem okd_tail_number (T : Txt K mg A) : FnOk P w K mg base (L2.CX P w) (0 + 1) A.f_tail_number A.d_tail_number P_tail_number (spD K conTail) := by
  refine okD_fn T.F_tail_number sc_tail_number (fun es P PX h => ?_) (fun cdv A' outer s H I E es R PX hr fo hc => ?_)
  · obtain ⟨tail, m, k, rfl, _⟩ := h
    rfl
  obtain ⟨tail, m, k, rfl, hn, hl, h0, hk, hm, hP⟩ := hc
  have hu := hu_of hr
  refine ⟨_, (dss_one (ds_ret (de_op dor_add (de_ix dix (dv 0) (de_op dor_mod (dv 2) (de_blt dcr_len (by rfl) T.n_len (by decide +kernel) (da_cons (dv 0) da_nil)))) (de_op dor_mul (de_op dor_div (dv 2) (de_blt dcr_len (by rfl) T.n_len (by decide +kernel) (da_cons (dv 0) da_nil))) (dv 1))))), ?_⟩
  walk_at "dy"
  have hl1 : 1 ≤ tail.length := List.length_pos_iff.mpr hn
  have hlp : (0 : Int) < (tail.length : Int) := by omega
  have m0 : 0 ≤ k % (tail.length : Int) := Int.emod_nonneg _ (by omega)
  have m1 : k % (tail.length : Int) < (tail.length : Int) := Int.emod_lt_of_pos _ hlp
  refine o_modI hlp ?_
  walk_at "dx"
  have hkd : Sm (k / (tail.length : Int)) := hk.le (Int.natAbs_ediv_le_natAbs _ _)
  refine o_mulI (mul_sm hkd hm) ?_
  walk_at "dx"
  have e1 : (k % (tail.length : Int)).toNat = k.toNat % tail.length := by
    have : ((k % (tail.length : Int)).toNat : Int) = ((k.toNat % tail.length : Nat) : Int) := by
      rw [Int.toNat_of_nonneg m0]
      push_cast
      rw [Int.toNat_of_nonneg h0]
    omega
  have e2 : k / (tail.length : Int) = ((k.toNat / tail.length : Nat) : Int) := by
    push_cast
    rw [Int.toNat_of_nonneg h0]
  rw [e1, e2, cval_tail hn]
  exact hP
theorem okd_least_every (T : Txt K mg A) : FnOk P w K mg base (L2.CX P w) (2 + 1) A.f_least_every A.d_least_every P_least_every (spD K conLeast) := by
  have G_tail_number := okd_tail_number (P := P) (w := w) (base := base) T
  refine okD_fn T.F_least_every sc_least_every (fun es P PX h => ?_) (fun cdv A' outer s H I E es R PX hr fo hc => ?_)
  · obtain ⟨tail, m, rfl, _⟩ := h
    rfl
  obtain ⟨tail, m, rfl, hn, hl, hm, hP⟩ := hc
  have hu := hu_of hr
  refine ⟨_, (dss_cons (ds_for (passes_of rfl) rfl (di_rng2 (by rfl) T.n_range (da_cons de_int (da_cons (de_blt dcr_len (by rfl) T.n_len (by decide +kernel) (da_cons (dv 0) da_nil)) da_nil))) (dg_name (i := 2) sc_least_every.nd rfl (Or.inr rfl))
(dss_one (ds_if (dt_cmp (dor_eq hr.units) (de_op dor_mod (de_blt dcr_len (by rfl) T.n_len (by decide +kernel) (da_cons (dv 0) da_nil)) (dv 2)) de_int (nomark _))
(dss_cons (ds_set (i := 3) sc_least_every.nd rfl (Or.inl rfl) (de_op dor_sub (de_ix dix (dv 0) (dv 2)) (de_ix dix (dv 0) de_int)))
(dss_cons (ds_setLc (i := 4) (own := [("k", 5)]) (by rfl) sc_least_every.nd rfl rfl (sw_true rfl rfl rfl (by decide +kernel)) (di_rng1 (by rfl) T.n_range (da_cons (de_blt dcr_len (by rfl) T.n_len (by decide +kernel) (da_cons (dv 0) da_nil)) da_nil)) (blkOk_by (own := [("k", 5)]) (N := N_least_every) (sc := defScope s_least_every) (by decide +kernel)) (fun _ _ _ _ _ => by exact (dg_name (i := 5) sc_least_every.nd rfl (Or.inl rfl))) (fun _ _ _ _ _ => by exact dts_nil) (fun _ _ _ _ _ => by exact (de_op dor_sub (de_call G_tail_number (hr.mono (by first | decide | omega)) rfl T.g_tail_number T.k_tail_number T.b_tail_number takes0 frok_nox (dg_v (dv 0) (dg_v (dv 1) (dg_v (de_op dor_add (dv 5) (dv 2)) dg_nil)))) (de_ix dix (dv 0) (dv 5)))) (by rfl))
(dss_one (ds_if (dt_cmp (dor_eq hr.units) (dv 4) (de_op dor_rep (de_lst (da_cons (dv 3) da_nil)) (de_blt dcr_len (by rfl) T.n_len (by decide +kernel) (da_cons (dv 0) da_nil))) (nomark _))
(dss_one (ds_ret (de_tup (da_cons (dv 2) (da_cons (dv 3) da_nil)))))
dss_nil))))
dss_nil)))
(dss_one (ds_ret (de_tup (da_cons (de_blt dcr_len (by rfl) T.n_len (by decide +kernel) (da_cons (dv 0) da_nil)) (da_cons (dv 1) da_nil)))))), ?_⟩
  walk_at "dy"
  have hl1 : 1 ≤ tail.length := List.length_pos_iff.mpr hn
  walk_at "dx"
  refine ⟨fun i e => ∃ v2 v3 v4, e = [iD (intsD tail), iI m, v2, v3, v4, none] ∧ ∀ p', 1 ≤ p' → p' < i + 1 → p' ∣ tail.length → ¬ ∃ r', QP (cval tail tail.length m) p' r' 0, ⟨_, _, _, rfl, fun p' a b => by omega⟩, ?_, ?_⟩
  · rintro i c e hc ⟨v2, v3, v4, rfl, hi⟩
    obtain ⟨hil, rfl⟩ := rng_get hc
    walk_at "dx"
    · have hil2 : i + 1 < tail.length := by omega
      have cmod := c
      refine ⟨by rw [rngD_len]; omega, fun j acc => acc = ((List.range j).map (fun k => cval tail tail.length m (k + (i + 1)) - cval tail tail.length m k)).map D.int, rfl, ?_, ?_⟩
      · rintro j d acc hd rfl
        obtain ⟨hj, rfl⟩ := rng_get hd
        have hj : j < tail.length := by omega
        walk_at "dx"
        refine ⟨tail, m, _, rfl, hn, hl, by omega, ?_, hm, ?_⟩
        · unfold Sm
          have : (0 + (j : Int) + (1 + (i : Int))).natAbs < 2 ^ 20 := by omega
          exact Nat.lt_of_lt_of_le this (Nat.pow_le_pow_right (by decide) (by decide))
        walk_at "dx"
        refine ⟨rfl, ?_⟩
        dsimp only
        rw [List.range_succ, List.map_append, List.map_append, show (0 + (j : Int) + (1 + (i : Int))).toNat = j + (i + 1) by omega, show (0 + (j : Int)).toNat = j by omega]
        simp only [List.map_cons, List.map_nil]
        rw [cval_lt hj]
      rintro acc rfl
      rw [rngD_len]
      walk_at "dx"
      · have e0 : tail.getD (1 + (i : Int)).toNat 0 - tail.getD (Int.toNat 0) 0 = tail.getD (i + 1) 0 - tail.getD 0 0 := by
          rw [show (1 + (i : Int)).toNat = i + 1 by omega]; rfl
        have key : ∀ k, k < tail.length → cval tail tail.length m (k + (i + 1)) - cval tail tail.length m k = tail.getD (i + 1) 0 - tail.getD 0 0 := fun k hk => by
          have z := congrArg (fun l => l[k]?) c
          rw [List.getElem?_map, List.getElem?_range (by omega), List.getElem?_replicate, if_pos (by omega), e0] at z
          exact Option.some.inj z
        rw [e0]
        have z := hP (i + 1) (tail.getD (i + 1) 0 - tail.getD 0 0) ⟨by omega, by
          have := Int.dvd_of_emod_eq_zero cmod
          rw [Int.add_comm] at this
          exact Int.natCast_dvd_natCast.mp (by push_cast; exact this), (stepOk.qp hl1 ((cval_qp hl1 (Nat.le_refl _)).up (by omega)) (fun k hk => by rw [Nat.zero_add]; exact key k hk)), fun p' a b d => hi p' a b d⟩
        rw [show ((i + 1 : Nat) : Int) = 1 + (i : Int) by omega] at z
        exact z
      · refine ⟨_, _, _, rfl, fun p' a b d => ?_⟩
        by_cases hp : p' = i + 1
        · subst hp
          rintro ⟨r', q⟩
          apply c
          have e0 : tail.getD (1 + (i : Int)).toNat 0 - tail.getD (Int.toNat 0) 0 = r' := by
            have z := q 0 (Nat.le_refl _)
            rw [Nat.zero_add, cval_lt hil2, cval_lt (by omega)] at z
            rw [show (1 + (i : Int)).toNat = i + 1 by omega, show Int.toNat 0 = 0 from rfl]
            omega
          rw [e0]
          refine List.ext_getElem (by simp) fun k a b => ?_
          rw [List.getElem_map, List.getElem_range, List.getElem_replicate]
          have z := q k (by omega)
          omega
        · exact hi p' a (by omega) d
    · refine ⟨_, _, _, rfl, fun p' a b d => ?_⟩
      by_cases hp : p' = i + 1
      · subst hp
        intro _
        apply c
        have := Int.natCast_dvd_natCast.mpr d
        push_cast at this
        rw [Int.add_comm]
        exact Int.emod_eq_zero_of_dvd this
      · exact hi p' a (by omega) d
  · rintro e ⟨v2, v3, v4, rfl, hi⟩
    rw [rngD_len] at hi
    walk_at "dx"
    refine hP tail.length m ⟨hl1, Nat.dvd_refl _, (cval_qp hl1 (Nat.le_refl _)).up (by omega), fun p' a b c => hi p' a (by omega) c⟩
theorem okd_fewest_numbers (T : Txt K mg A) : FnOk P w K mg base (L2.CX P w) (0 + 1) A.f_fewest_numbers A.d_fewest_numbers P_fewest_numbers (spD K conFew) := by
  refine okD_fn T.F_fewest_numbers sc_fewest_numbers (fun es P PX h => ?_) (fun cdv A' outer s H I E es R PX hr fo hc => ?_)
  · obtain ⟨t, row, p, r, v, rfl, _⟩ := h
    rfl
  obtain ⟨t, row, p, r, v, rfl, ht, hp, hpl, hv, hq, hP⟩ := hc
  have hu := hu_of hr
  refine ⟨_, (dss_cons (ds_set (i := 3) sc_fewest_numbers.nd rfl (Or.inl rfl) (de_blt dcr_len (by rfl) T.n_len (by decide +kernel) (da_cons (dv 0) da_nil)))
(dss_cons (ds_while (passes_of rfl) (dt_w (dw_and (dt_cmp dor_gt (dv 3) (dv 1) (nomark _)) (dw_and1 (dt_cmp (dor_eq hr.units) (de_ix dix (dv 0) (de_op dor_sub (dv 3) de_int)) (de_op dor_add (de_ix dix (dv 0) (de_op dor_sub (de_op dor_sub (dv 3) de_int) (dv 1))) (dv 2)) (nomark _)))))
(dss_one (ds_aug (i := 3) ip_sub dop_augSub de_int sc_fewest_numbers.nd rfl (Or.inl rfl))))
(dss_one (ds_ret (de_sl (dv 0) dx_no (dx_some (dv 3))))))), ?_⟩
  walk_at "dy"
  have gd : ∀ {i : Nat}, i < row.length → row.getD i 0 = v i := fun h => getD_of hv h
  have out : ∀ (n : Nat) a, p ≤ n → n ≤ row.length → QP v p r (n - p) → (n = p ∨ v (n - 1) ≠ v (n - 1 - p) + r) → R (Ent.own a (D.lst (cutL (row.map D.int) none (some (n : Int))))) [t, Ent.imm (D.int p), Ent.imm (D.int r)] := fun n a c1 c2 c3 h => by
    rw [cut_to (by omega) (by rw [List.length_map]; omega), ← List.map_take, Int.toNat_natCast, take_of hv c2]
    exact hP n a c1 c2 c3 h
  rcases ht with rfl | ⟨a0, rfl⟩
  all_goals walk_at "dx"
  · refine ⟨fun n e => p ≤ n ∧ n ≤ row.length ∧ QP v p r (n - p) ∧ e = [iD (intsD row), iI p, iI r, iI n], ⟨row.length, hpl, Nat.le_refl _, hq, rfl⟩, ?_⟩
    rintro n e ⟨c1, c2, c3, rfl⟩
    walk_at "dx"
    · rw [show ((n : Int) - 1).toNat = n - 1 by omega, show ((n : Int) - 1 - p).toNat = n - 1 - p by omega, gd (by omega), gd (by omega)] at c
      exact ⟨n - 1, by omega, by omega, by omega, few_qp c3 (by omega) c, by rw [show ((n : Int) - 1) = ((n - 1 : Nat) : Int) by omega]; rfl⟩
    · rw [show ((n : Int) - 1).toNat = n - 1 by omega, show ((n : Int) - 1 - p).toNat = n - 1 - p by omega, gd (by omega), gd (by omega)] at c
      exact out n a c1 c2 c3 (.inr c)
    · exact out n a c1 c2 c3 (.inl (by omega))
  · refine ⟨fun n e => p ≤ n ∧ n ≤ row.length ∧ QP v p r (n - p) ∧ e = [some (.own a0 (intsD row)), iI p, iI r, iI n], ⟨row.length, hpl, Nat.le_refl _, hq, rfl⟩, ?_⟩
    rintro n e ⟨c1, c2, c3, rfl⟩
    walk_at "dx"
    · rw [show ((n : Int) - 1).toNat = n - 1 by omega, show ((n : Int) - 1 - p).toNat = n - 1 - p by omega, gd (by omega), gd (by omega)] at c
      exact ⟨n - 1, by omega, by omega, by omega, few_qp c3 (by omega) c, by rw [show ((n : Int) - 1) = ((n - 1 : Nat) : Int) by omega]; rfl⟩
    · rw [show ((n : Int) - 1).toNat = n - 1 by omega, show ((n : Int) - 1 - p).toNat = n - 1 - p by omega, gd (by omega), gd (by omega)] at c
      exact out n a c1 c2 c3 (.inr c)
    · exact out n a c1 c2 c3 (.inl (by omega))
end

end

section
local macro_rules | `(tactic| walk_at "al") => `(tactic| first
  | omega
  | exact Or.inl (Or.inl ⟨by omega, by omega⟩)
  | exact Or.inl (Or.inr ⟨by omega, by omega⟩)
  | exact ⟨by omega, Or.inl (by omega)⟩
  | exact ⟨by omega, by omega, by omega, by omega⟩
  | exact ⟨by decide, by decide, by decide⟩)
local macro_rules | `(tactic| walk_at "bk") => `(tactic| repeat (first | exact BackE.nil | apply BackE.imm | apply BackE.own | apply BackE.hand))
local macro_rules | `(tactic| walk_at "ds1") => `(tactic| first
  | ((with_reducible refine' s_vi ?ee_ ?_); (case ee_ => rfl))
  | ((with_reducible refine' s_vs ?ee_ ?_); (case ee_ => rfl))
  | with_reducible refine s_c ?_
  | with_reducible refine s_aN ?_
  | with_reducible refine s_aC ?_
  | with_reducible refine s_op ?_
  | ((with_reducible refine' x_val2 ?ee_ ?ff_ ?_); (case ee_ => rfl); (case ff_ => rfl))
  | ((with_reducible refine' x_bl ?ee_ ?_); (case ee_ => rfl))
  | ((with_reducible refine' x_int ?ee_ ?_); (case ee_ => rfl))
  | ((with_reducible refine' x_val ?ee_ ?_); (case ee_ => rfl))
  | ((with_reducible refine' x_vals ?ee_ ?_); (case ee_ => rfl))
  | ((with_reducible refine' x_frzs ?ee_ ?ll_ ?_); (case ee_ => rfl); (case ll_ => rfl))
  | ((with_reducible refine' x_frzO ?ee_ ?_); (case ee_ => rfl))
  | ((with_reducible refine' x_frz2 ?ee_ ?ff_ ?_); (case ee_ => rfl); (case ff_ => rfl))
  | ((with_reducible refine' x_frz ?ee_ ?_); (case ee_ => rfl))
  | ((with_reducible refine' x_asg ?ee_ ?_); (case ee_ => rfl))
  | with_reducible refine o_addI ?_
  | with_reducible refine o_subI ?_
  | ((with_reducible refine' o_mulI ?cc_ ?_); (case cc_ => walk_at "al"))
  | ((with_reducible refine' o_divI ?cc_ ?_); (case cc_ => walk_at "al"))
  | ((with_reducible refine' o_modI ?cc_ ?_); (case cc_ => walk_at "al"))
  | ((with_reducible refine' o_powI ?cc_ ?_); (case cc_ => walk_at "al"))
  | with_reducible refine o_andI ?_
  | with_reducible refine o_ltI ?_
  | with_reducible refine o_leI ?_
  | with_reducible refine o_gtI ?_
  | with_reducible refine o_geI ?_
  | with_reducible refine o_eqI ?_
  | with_reducible refine o_eqS ?_
  | with_reducible refine o_eqP ?_
  | with_reducible refine o_neI ?_
  | with_reducible refine o_neS ?_
  | with_reducible refine o_isN_non ?_
  | with_reducible refine o_notN_non ?_
  | with_reducible refine o_isN_bl ?_
  | with_reducible refine o_notN_bl ?_
  | with_reducible refine o_isN_int ?_
  | with_reducible refine o_notN_int ?_
  | with_reducible refine o_isN_str ?_
  | with_reducible refine o_notN_str ?_
  | with_reducible refine o_isN_lst ?_
  | with_reducible refine o_notN_lst ?_
  | with_reducible refine o_isN_tup ?_
  | with_reducible refine o_notN_tup ?_
  | with_reducible refine o_isN_obj ?_
  | with_reducible refine o_notN_obj ?_
  | with_reducible refine o_eqB ?_
  | with_reducible refine o_isN' ?_
  | with_reducible refine o_isB' ?_
  | with_reducible refine o_notN' ?_
  | ((with_reducible refine' o_ixT ?ee_ ?ff_ ?_); (case ee_ => first | rfl | assumption); (case ff_ => first | rfl | assumption))
  | ((with_reducible refine' ixI ?aa_ ?bb_ ?_); (case aa_ => omega); (case bb_ => omega))
  | ((with_reducible refine' o_ixL ?ee_ ?ff_ ?_); (case ee_ => first | rfl | assumption); (case ff_ => first | rfl | assumption))
  | with_reducible refine o_slF ?_
  | with_reducible refine o_slL ?_
  | with_reducible refine o_slT ?_
  | with_reducible refine s_dnT ?_
  | with_reducible refine s_dnK ?_
  | with_reducible refine o_neP ?_
  | with_reducible refine o_neC ?_
  | ((with_reducible refine' o_fld ?ee_ ?_); (case ee_ => rfl))
  | with_reducible refine o_lenI ?_
  | with_reducible refine o_lenL ?_
  | with_reducible refine o_lenT ?_
  | with_reducible refine o_lenF ?_
  | with_reducible refine o_lenD ?_
  | with_reducible refine o_int ?_
  | with_reducible refine o_abs ?_
  | with_reducible refine o_max ?_
  | with_reducible refine o_min ?_
  | with_reducible refine o_list ?_
  | ((with_reducible refine' o_inT ?ee_ ?_); (case ee_ => rfl))
  | ((with_reducible refine' o_ninT ?ee_ ?_); (case ee_ => rfl))
  | with_reducible refine o_neg ?_
  | ((with_reducible refine' o_inF ?ee_ ?_); (case ee_ => rfl))
  | ((with_reducible refine' o_ninF ?ee_ ?_); (case ee_ => rfl))
  | with_reducible refine s_tup ?_
  | with_reducible refine s_lst ?_
  | with_reducible refine s_un ?_
  | with_reducible refine s_cl ?_
  | with_reducible refine s_test ?_
  | with_reducible refine s_and ?_
  | with_reducible refine s_or ?_
  | with_reducible refine s_not ?_
  | with_reducible refine s_andV ?_
  | with_reducible refine s_orV ?_
  | with_reducible refine s_notV ?_
  | with_reducible refine s_ifV ?_
  | with_reducible refine s_chain ?_
  | with_reducible refine x_ib ?_
  | with_reducible refine s_pN ?_
  | with_reducible refine s_pS ?_
  | with_reducible refine s_sl ?_
  | with_reducible refine s_sameL ?_
  | with_reducible refine o_isNB ?_
  | with_reducible refine s_fz ?_
  | with_reducible refine o_ixH ?_
  | ((with_reducible refine' x_noa ?ee_ ?_); (case ee_ => rfl))
  | ((with_reducible refine' x_lenN ?ee_ ?ff_ ?_); (case ee_ => omega); (case ff_ => omega))
  | ((with_reducible refine' x_le1000 ?ee_ ?_); (case ee_ => rfl))
  | with_reducible refine s_call ?_
  | ((with_reducible refine' x_con ?ee_ ?ff_ ?_); (case ee_ => rfl); (case ff_ => rfl))
  | ((with_reducible refine' s_callD ?ee_ ?ff_ ?_); (case ee_ => rfl); (case ff_ => rfl))
  | ((with_reducible refine' x_back ?ll_ ?ee_ ?_); (case ll_ => rfl); (case ee_ => rfl))
  | ((with_reducible refine' x_back1 ?ee_ ?_); (case ee_ => rfl))
  | with_reducible refine s_gaN ?_
  | with_reducible refine s_gaV ?_
  | ((with_reducible refine' s_gaR ?ee_ ?_); (case ee_ => rfl))
  | with_reducible refine s_meth ?_
  | with_reducible refine s_meth0 ?_
  | with_reducible refine s_methK ?_
  | with_reducible refine s_makeK ?_
  | ((with_reducible refine' x_frzsK ?ee_ ?ll_ ?_); (case ee_ => rfl); (case ll_ => rfl))
  | with_reducible refine s_prop ?_
  | with_reducible refine s_make ?_
  | with_reducible refine s_own2 ?_
  | with_reducible refine s_eqX ?_
  | with_reducible refine s_neX ?_
  | with_reducible refine s_rev ?_
  | with_reducible refine x_nb ?_
  | ((with_reducible refine' x_rev ?ee_ ?ff_ ?_); (case ee_ => rfl); (case ff_ => rfl))
  | with_reducible refine s_lenO ?_
  | ((with_reducible refine' s_mut ?ee_ ?_); (case ee_ => rfl))
  | ((with_reducible refine' x_mut ?ee_ ?ff_ ?_); (case ee_ => rfl); (case ff_ => rfl))
  | ((with_reducible refine' s_mut0 ?ee_ ?_); (case ee_ => rfl))
  | with_reducible refine m_clr ?_
  | with_reducible refine m_rev ?_
  | with_reducible refine s_dget ?_
  | with_reducible refine s_dget1 ?_
  | with_reducible refine s_dget2 ?_
  | ((with_reducible refine' x_isT ?ee_ ?_); (case ee_ => rfl))
  | ((with_reducible refine' x_isK ?ee_ ?_); (case ee_ => rfl))
  | ((with_reducible refine' x_get2 ?ee_ ?ff_ ?gg_ ?_); (case ee_ => rfl); (case ff_ => rfl); (case gg_ => rfl))
  | with_reducible refine s_din ?_
  | with_reducible refine s_dnin ?_
  | ((with_reducible refine' s_lookT ?ee_ ?_); (case ee_ => rfl))
  | ((with_reducible refine' s_lookK ?ee_ ?_); (case ee_ => rfl))
  | with_reducible refine s_seq ?_
  | with_reducible refine s_set ?_
  | with_reducible refine s_ret ?_
  | with_reducible refine s_retN ?_
  | with_reducible refine s_if ?_
  | with_reducible refine s_next ?_
  | with_reducible refine s_drop ?_
  | with_reducible refine s_brk ?_
  | with_reducible refine s_cnt ?_
  | with_reducible refine s_asg ?_
  | with_reducible refine s_raise ?_
  | with_reducible refine s_setIx ?_
  | ((with_reducible refine' s_gN ?ee_ ?_); (case ee_ => rfl))
  | with_reducible refine s_gNl ?_
  | with_reducible refine s_gCn ?_
  | ((with_reducible refine' s_gT ?ee_ ?_); (case ee_ => rfl))
  | ((with_reducible refine' s_gL ?ee_ ?_); (case ee_ => rfl))
  | with_reducible refine s_for ?_
  | with_reducible refine s_wSeq ?_
  | ((with_reducible refine' x_items ?ee_ ?ff_ ?_); (case ee_ => rfl); (case ff_ => rfl))
  | with_reducible refine s_rng1 ?_
  | ((with_reducible refine' x_rng1 ?ee_ ?aa_ ?bb_ ?_); (case ee_ => rfl); (case aa_ => omega); (case bb_ => omega))
  | with_reducible refine s_rng2 ?_
  | ((with_reducible refine' x_rng2 ?ee_ ?aa_ ?_); (case ee_ => rfl); (case aa_ => exact ⟨by omega, by omega, by omega, by omega⟩))
  | with_reducible refine s_enum ?_
  | ((with_reducible refine' x_enum ?ee_ ?_); (case ee_ => rfl))
  | with_reducible refine s_lc ?_
  | with_reducible refine s_lcG ?_
  | ((with_reducible refine' s_lcV ?ee_ ?ff_ ?_); (case ee_ => rfl); (case ff_ => rfl))
  | ((with_reducible refine' s_forV ?ee_ ?_); (case ee_ => rfl))
  | with_reducible refine isi_bl_bool ?_
  | with_reducible refine isi_bl_int ?_
  | with_reducible refine isi_bl_str ?_
  | with_reducible refine isi_bl_list ?_
  | with_reducible refine isi_bl_tuple ?_
  | with_reducible refine isi_int_bool ?_
  | with_reducible refine isi_int_int ?_
  | with_reducible refine isi_int_str ?_
  | with_reducible refine isi_int_list ?_
  | with_reducible refine isi_int_tuple ?_
  | with_reducible refine isi_str_bool ?_
  | with_reducible refine isi_str_int ?_
  | with_reducible refine isi_str_str ?_
  | with_reducible refine isi_str_list ?_
  | with_reducible refine isi_str_tuple ?_
  | with_reducible refine isi_lst_bool ?_
  | with_reducible refine isi_lst_int ?_
  | with_reducible refine isi_lst_str ?_
  | with_reducible refine isi_lst_list ?_
  | with_reducible refine isi_lst_tuple ?_
  | with_reducible refine isi_tup_bool ?_
  | with_reducible refine isi_tup_int ?_
  | with_reducible refine isi_tup_str ?_
  | with_reducible refine isi_tup_list ?_
  | with_reducible refine isi_tup_tuple ?_
  | with_reducible refine isi_non_bool ?_
  | with_reducible refine isi_non_int ?_
  | with_reducible refine isi_non_str ?_
  | with_reducible refine isi_non_list ?_
  | with_reducible refine isi_non_tuple ?_
  | ((with_reducible refine' o_rep1 ?aa_ ?_); (case aa_ => exact ⟨by omega, by omega⟩))
  | ((with_reducible refine' o_eqIs ?aa_ ?bb_ ?_); (case aa_ => first | omega | (simp only [List.length_map, List.length_range, List.length_replicate]; omega)); (case bb_ => first | omega | (simp only [List.length_map, List.length_range, List.length_replicate]; omega)))
  | with_reducible refine o_intB ?_
  | ((with_reducible refine' o_neIs ?aa_ ?bb_ ?_); (case aa_ => first | omega | (simp only [List.length_map, List.length_range, List.length_replicate]; omega)); (case bb_ => first | omega | (simp only [List.length_map, List.length_range, List.length_replicate]; omega)))
  | with_reducible refine s_par ?_
  | ((with_reducible refine' x_par ?ee_ ?ff_ ?gg_ ?_); (case ee_ => rfl); (case ff_ => rfl); (case gg_ => rfl))
  | with_reducible refine s_rng1L ?_
  | ((with_reducible refine' x_rng1L ?ee_ ?_); (case ee_ => rfl))
  | with_reducible refine s_rng2L ?_
  | ((with_reducible refine' x_rng2L ?ee_ ?_); (case ee_ => rfl))
  | with_reducible refine s_fset ?_
  | ((with_reducible refine' x_fset ?ee_ ?ff_ ?gg_ ?_); (case ee_ => rfl); (case ff_ => rfl); (case gg_ => rfl))
  | with_reducible refine s_tryG ?_
  | ((with_reducible refine' s_xv ?ee_ ?ff_ ?gg_ ?_); (case ee_ => rfl); (case ff_ => assumption); (case gg_ => assumption))
  | ((with_reducible refine' s_xis ?ee_ ?ff_ ?_); (case ee_ => rfl); (case ff_ => assumption))
  | ((with_reducible refine' x_xis ?ee_ ?ff_ ?_); (case ee_ => rfl); (case ff_ => assumption))
  | ((with_reducible refine' x_clear ?ee_ ?_); (case ee_ => rfl))
  | with_reducible refine s_yes ?_
  | ((with_reducible refine' s_end ?ee_ ?bb_ ?_); (case ee_ => rfl); (case bb_ => walk_at "bk"))
  | ((with_reducible refine' x_pxT ?ee_ ?_); (case ee_ => assumption))
  | with_reducible refine x_got rfl ?_
  | with_reducible refine x_in0 ?_
  | with_reducible refine x_inS ?_
  | ((with_reducible refine' s_gVal ?ee_ ?_); (case ee_ => rfl))
  | ((with_reducible refine' s_gTag ?ee_ ?_); (case ee_ => rfl))
  | ((with_reducible refine' x_px ?bb_ ?_); (case bb_ => walk_at "bk"))
  | ((with_reducible refine' s_endN ?bb_ ?_); (case bb_ => walk_at "bk"))
  | with_reducible refine iteT ?_
  | with_reducible refine iteF ?_
  | with_reducible refine r_iteNf ?_
  | with_reducible refine r_iteNt ?_)
local macro_rules | `(tactic| walk_at "ds") => `(tactic| (repeat' (walk_at "ds1")))
set_option hygiene false in
local macro_rules | `(tactic| walk_at "dx") => `(tactic| (repeat' (first | walk_at "ds1" | with_reducible refine (fun (a : Addr) => ?_ : ∀ _ : Addr, _) | with_reducible refine ite_d (fun c => ?_) (fun c => ?_) | with_reducible refine ite_nd (fun c => ?_) (fun c => ?_) | with_reducible refine ite_nb (fun c => ?_) (fun c => ?_) | with_reducible refine ite_b (fun c => ?_) (fun c => ?_))))
set_option hygiene false in
local macro_rules | `(tactic| walk_at "dy") => `(tactic| (repeat' (first | walk_at "ds1" | with_reducible refine (fun (a : Addr) => ?_ : ∀ _ : Addr, _))))
/-! ### the class of courses -/
theorem canon_init {row : List Int} {e p : Nat} {m r : Int} (h1 : 1 ≤ e) (h2 : e ≤ row.length) (hl : Least (row.drop (row.length - e)) m p r) :
    1 ≤ p ∧ p ≤ row.length ∧ row = (List.range row.length).map (cval row e m) ∧ QP (cval row e m) p r (row.length - p) ∧ ∀ n, p ≤ n → n ≤ row.length → QP (cval row e m) p r (n - p) → (n = p ∨ cval row e m (n - 1) ≠ cval row e m (n - 1 - p) + r) → Canon ((List.range n).map (cval row e m)) p r (cval row e m) := by
  obtain ⟨p1, hd, q, hm⟩ := hl
  have le : (row.drop (row.length - e)).length = e := by rw [List.length_drop]; omega
  rw [le] at hd q hm
  have pe : p ≤ e := Nat.le_of_dvd h1 hd
  have sh : ∀ {p' r'}, QP (cval (row.drop (row.length - e)) e m) p' r' 0 ↔ QP (cval row e m) p' r' (row.length - e) := fun {p' r'} => by
    constructor
    · intro z k hk
      have y := z (k - (row.length - e)) (Nat.zero_le _)
      rw [cval_drop h1 h2, cval_drop h1 h2, show row.length - e + (k - (row.length - e) + p') = k + p' by omega, show row.length - e + (k - (row.length - e)) = k by omega] at y
      exact y
    · intro z k _
      have y := z (row.length - e + k) (by omega)
      rw [cval_drop h1 h2, cval_drop h1 h2, show row.length - e + (k + p') = row.length - e + k + p' by omega]
      exact y
  have q' := sh.mp q
  refine ⟨p1, by omega, ?_, q'.up (by omega), fun n a b c d => canon_of p1 a c (least_of h1 (cval_qp h1 h2) p1 q' hd fun p' x y z => fun ⟨r', w⟩ => hm p' x y z ⟨r', sh.mpr w⟩) d⟩
  refine List.ext_getElem (by simp) fun i x y => ?_
  rw [List.getElem_map, List.getElem_range, cval_lt x, List.getD_eq_getElem?_getD, List.getElem?_eq_getElem x]
  rfl
def conCourse (A : Ad) : Con := fun es P PX => ∃ (s : Int) (t : Ent) (row : List Int) (ev m : Int), es = [.int s, t, .int ev, .int m] ∧ IsInts t row ∧ row.length ≤ 1000 ∧ (s < 1 → PX A.C_InvalidSize (.int s) es) ∧ (1 ≤ s → (ev < 1 ∨ (row.length : Int) < ev) → PX A.C_InvalidNumber (.int ev) es) ∧
  (1 ≤ s → 1 ≤ ev → ev ≤ row.length → Sm m ∧ ∀ (told : List Int) (p : Nat) (r : Int), Canon told p r (cval row ev.toNat m) → told.length ≤ row.length → Sm r → P (.imm (crsD A.C_Course s told p r)) es)
theorem mono_course {A : Ad} : MonoC A.C_Course (conCourse A) := by
  rintro es P P' PX PX' h1 h2 ⟨s, t, row, ev, m, rfl, ht, hl, a, b, c⟩
  exact ⟨s, t, row, ev, m, rfl, ht, hl, fun x => h2 _ _ _ (a x), fun x y => h2 _ _ _ (b x y), fun x y z => ⟨(c x y z).1, fun told p r q l sm => h1 _ _ ((c x y z).2 told p r q l sm)⟩⟩
def conLeastP (A : Ad) : Con := fun es P _ => ∃ (s : Int) (told : List Int) (p : Nat) (r : Int), es = [.imm (crsD A.C_Course s told p r)] ∧ P (.int s) es
def conNumbers (A : Ad) : Con := fun es P _ => ∃ (s : Int) (told : List Int) (p : Nat) (r : Int), es = [.imm (crsD A.C_Course s told p r)] ∧ ∀ l, P (.own l (intsD told)) es
def conEvery (A : Ad) : Con := fun es P _ => ∃ (s : Int) (told : List Int) (p : Nat) (r : Int), es = [.imm (crsD A.C_Course s told p r)] ∧ P (.int p) es
def conMore (A : Ad) : Con := fun es P _ => ∃ (s : Int) (told : List Int) (p : Nat) (r : Int), es = [.imm (crsD A.C_Course s told p r)] ∧ P (.int r) es
def conCAt (A : Ad) : Con := fun es P PX => ∃ (s : Int) (told : List Int) (p : Nat) (r n : Int), es = [.imm (crsD A.C_Course s told p r), .int n] ∧ 1 ≤ p ∧ p ≤ told.length ∧ told.length ≤ 1000 ∧ Sm r ∧ (n < s → PX A.C_NoLength (.int n) es) ∧ (s ≤ n → Sm (n - s) ∧ P (.int (cval told p r (n - s).toNat)) es)
section
variable {P : Program} {w : World} {K : PySem.W.Frag} {mg : Str → Option Value} {base : Heap} {A : Ad}
theorem okd_Course___init__ (T : Txt K mg A) : FnOk P w K mg base (L2.CX P w) (4 + 1) A.f_Course___init__ A.d_Course___init__ P_Course___init__ (spD K (conInit A.C_Course (conCourse A))) := by
  have G_SandError___init__ := okd_SandError___init__ (P := P) (w := w) (base := base) T
  have G_least_every := okd_least_every (P := P) (w := w) (base := base) T
  have G_fewest_numbers := okd_fewest_numbers (P := P) (w := w) (base := base) T
  refine okD_fn T.F_Course___init__ sc_Course___init__ (fun es P PX h => ?_) (fun cdv A' outer s H I E es R PX hr fo hc => ?_)
  · obtain ⟨a0, _, rfl, s0, t, row, ev, m, rfl, _⟩ := h
    rfl
  obtain ⟨a0, _, rfl, s0, t, row, ev, m, rfl , ht, hl, hX, hN, hG⟩ := hc
  have hu := hu_of hr
  refine ⟨_, (dss_cons (ds_if (dt_cmp dor_lt (dv 1) de_int (nomark _))
(dss_one (ds_raise rfl (takes_of rfl rfl rfl rfl) fo T.X_InvalidSize T.i_InvalidSize T.ti_init T.no_InvalidSize G_SandError___init__ (hr.mono (by first | decide | omega)) T.b_SandError___init__ rfl T.g_InvalidSize (dv 1)))
dss_nil)
(dss_cons (ds_if (dt_w (dw_or (dt_cmp dor_lt (dv 3) de_int (nomark _)) (dw_or1 (dt_cmp dor_gt (dv 3) (de_blt dcr_len (by rfl) T.n_len (by decide +kernel) (da_cons (dv 2) da_nil)) (nomark _)))))
(dss_one (ds_raise rfl (takes_of rfl rfl rfl rfl) fo T.X_InvalidNumber T.i_InvalidNumber T.ti_init T.no_InvalidNumber G_SandError___init__ (hr.mono (by first | decide | omega)) T.b_SandError___init__ rfl T.g_InvalidNumber (dv 3)))
dss_nil)
(dss_cons (ds_asg (de_call G_least_every (hr.mono (by first | decide | omega)) rfl T.g_least_every T.k_least_every T.b_least_every (takes_of rfl rfl rfl rfl) fo (dg_v (de_sl (dv 2) (dx_some (de_op dor_sub (de_blt dcr_len (by rfl) T.n_len (by decide +kernel) (da_cons (dv 2) da_nil)) (dv 3))) dx_no) (dg_v (dv 4) dg_nil))) (dg_tup (n := 2) rfl (dgs_cons (dg_name (i := 5) sc_Course___init__.nd rfl (Or.inl rfl)) (dgs_cons (dg_name (i := 6) sc_Course___init__.nd rfl (Or.inl rfl)) dgs_nil))))
(dss_cons (ds_fset (pv 0) T.cl_Course T.na_Course_start (dv 1))
(dss_cons (ds_fset (pv 0) T.cl_Course T.na_Course_told (de_call G_fewest_numbers (hr.mono (by first | decide | omega)) rfl T.g_fewest_numbers T.k_fewest_numbers T.b_fewest_numbers (takes_of rfl rfl rfl rfl) fo (gr 2 (dg_v (dv 5) (dg_v (dv 6) dg_nil)))))
(dss_cons (ds_fset (pv 0) T.cl_Course T.na_Course_period (dv 5))
(dss_one (ds_fset (pv 0) T.cl_Course T.na_Course_rise (dv 6))))))))), ?_⟩
  walk_at "dy"
  rcases ht with rfl | ⟨a1, rfl⟩
  all_goals walk_at "dx"
  · exact hX c _
  · rename_i c1
    exact hN (by omega) (.inl c) _
  · rename_i c1
    exact hN (by omega) (.inr c) _
  · obtain ⟨hm, hG⟩ := hG (by omega) (by omega) (by omega)
    obtain ⟨e, rfl⟩ : ∃ e : Nat, ev = e := ⟨ev.toNat, by omega⟩
    have h1 : 1 ≤ e := by omega
    have h2 : e ≤ row.length := by omega
    rw [Int.toNat_natCast] at hG
    rw [cut_from (by omega) (by rw [List.length_map]; omega), ← List.map_drop, show ((row.length : Int) - e).toNat = row.length - e by omega]
    refine ⟨row.drop (row.length - e), m, rfl, fun z => ?_, by rw [List.length_drop]; omega, hm, fun p r hls => ?_⟩
    · have := congrArg List.length z
      rw [List.length_drop] at this
      simp at this
      omega
    obtain ⟨p1, p2, p3, p4, p5⟩ := canon_init h1 h2 hls
    have hr2 : Sm r := by
      obtain ⟨_, hd, q, _⟩ := hls
      have lz : (row.drop (row.length - e)).length = e := by rw [List.length_drop]; omega
      refine hm.le (qp_rise q ((cval_qp (by omega) (Nat.le_refl _)).up (by omega)) hd (by omega))
    walk_at "dx"
    refine ⟨_, row, p, r, _, rfl, by first | exact .inl rfl | exact .inr ⟨_, rfl⟩, p1, p2, p3, p4, fun n l n1 n2 n3 n4 => ?_⟩
    walk_at "dx"
    obtain ⟨fs, ef, hR⟩ := hG _ p r (p5 n n1 n2 n3 n4) (by simpa using n2) hr2
    cases ef
    exact hR
  · exact hX c _
  · rename_i c1
    exact hN (by omega) (.inl c) _
  · rename_i c1
    exact hN (by omega) (.inr c) _
  · obtain ⟨hm, hG⟩ := hG (by omega) (by omega) (by omega)
    obtain ⟨e, rfl⟩ : ∃ e : Nat, ev = e := ⟨ev.toNat, by omega⟩
    have h1 : 1 ≤ e := by omega
    have h2 : e ≤ row.length := by omega
    rw [Int.toNat_natCast] at hG
    rw [cut_from (by omega) (by rw [List.length_map]; omega), ← List.map_drop, show ((row.length : Int) - e).toNat = row.length - e by omega]
    refine ⟨row.drop (row.length - e), m, rfl, fun z => ?_, by rw [List.length_drop]; omega, hm, fun p r hls => ?_⟩
    · have := congrArg List.length z
      rw [List.length_drop] at this
      simp at this
      omega
    obtain ⟨p1, p2, p3, p4, p5⟩ := canon_init h1 h2 hls
    have hr2 : Sm r := by
      obtain ⟨_, hd, q, _⟩ := hls
      have lz : (row.drop (row.length - e)).length = e := by rw [List.length_drop]; omega
      refine hm.le (qp_rise q ((cval_qp (by omega) (Nat.le_refl _)).up (by omega)) hd (by omega))
    walk_at "dx"
    refine ⟨_, row, p, r, _, rfl, by first | exact .inl rfl | exact .inr ⟨_, rfl⟩, p1, p2, p3, p4, fun n l n1 n2 n3 n4 => ?_⟩
    walk_at "dx"
    obtain ⟨fs, ef, hR⟩ := hG _ p r (p5 n n1 n2 n3 n4) (by simpa using n2) hr2
    cases ef
    exact hR
theorem mkD_Course : MkD K A.C_Course (spD K (conInit A.C_Course (conCourse A))) (conCourse A) := mkD_own mono_course
theorem mkD_CourseR : MkD K A.C_Course (spD K (conInit A.C_Course (conCourse A))) (conCourse A) := mkD_own mono_course
theorem okd_Course_least (T : Txt K mg A) : FnOk P w K mg base (L2.CX P w) (0 + 1) A.f_Course_least A.d_Course_least P_Course_least (spD K (conLeastP A)) := by
  refine okD_fn T.F_Course_least sc_Course_least (fun es P PX h => ?_) (fun cdv A' outer s H I E es R PX hr fo hc => ?_)
  · obtain ⟨s0, told, p, r, rfl, _⟩ := h
    rfl
  obtain ⟨s0, told, p, r, rfl, hP⟩ := hc
  have hu := hu_of hr
  refine ⟨_, (dss_one (ds_ret (de_fld (dv 0) T.cl_Course T.na_Course_start))), ?_⟩
  walk_at "dy"
  exact hP
theorem okd_Course_numbers (T : Txt K mg A) : FnOk P w K mg base (L2.CX P w) (0 + 1) A.f_Course_numbers A.d_Course_numbers P_Course_numbers (spD K (conNumbers A)) := by
  refine okD_fn T.F_Course_numbers sc_Course_numbers (fun es P PX h => ?_) (fun cdv A' outer s H I E es R PX hr fo hc => ?_)
  · obtain ⟨s0, told, p, r, rfl, _⟩ := h
    rfl
  obtain ⟨s0, told, p, r, rfl, hP⟩ := hc
  have hu := hu_of hr
  refine ⟨_, (dss_one (ds_ret (de_typ dcr_list (by rfl) T.n_list (by decide +kernel) (da_cons (de_fld (dv 0) T.cl_Course T.na_Course_told) da_nil)))), ?_⟩
  walk_at "dy"
  walk_at "dx"
  exact hP _
theorem okd_Course_every (T : Txt K mg A) : FnOk P w K mg base (L2.CX P w) (0 + 1) A.f_Course_every A.d_Course_every P_Course_every (spD K (conEvery A)) := by
  refine okD_fn T.F_Course_every sc_Course_every (fun es P PX h => ?_) (fun cdv A' outer s H I E es R PX hr fo hc => ?_)
  · obtain ⟨s0, told, p, r, rfl, _⟩ := h
    rfl
  obtain ⟨s0, told, p, r, rfl, hP⟩ := hc
  have hu := hu_of hr
  refine ⟨_, (dss_one (ds_ret (de_fld (dv 0) T.cl_Course T.na_Course_period))), ?_⟩
  walk_at "dy"
  exact hP
theorem okd_Course_at (T : Txt K mg A) : FnOk P w K mg base (L2.CX P w) (2 + 1) A.f_Course_at A.d_Course_at P_Course_at (spD K (conCAt A)) := by
  have G_SandError___init__ := okd_SandError___init__ (P := P) (w := w) (base := base) T
  have G_tail_number := okd_tail_number (P := P) (w := w) (base := base) T
  refine okD_fn T.F_Course_at sc_Course_at (fun es P PX h => ?_) (fun cdv A' outer s H I E es R PX hr fo hc => ?_)
  · obtain ⟨s0, told, p, r, n, rfl, _⟩ := h
    rfl
  obtain ⟨s0, told, p, r, n, rfl, hp, hpl, hl, hr', hX, hP⟩ := hc
  have hu := hu_of hr
  refine ⟨_, (dss_cons (ds_if (dt_cmp dor_lt (dv 1) (de_fld (dv 0) T.cl_Course T.na_Course_start) (nomark _))
(dss_one (ds_raise rfl (takes_of rfl rfl rfl rfl) fo T.X_NoLength T.i_NoLength T.ti_init T.no_NoLength G_SandError___init__ (hr.mono (by first | decide | omega)) T.b_SandError___init__ rfl T.g_NoLength (dv 1)))
dss_nil)
(dss_cons (ds_set (i := 2) sc_Course_at.nd rfl (Or.inl rfl) (de_op dor_sub (dv 1) (de_fld (dv 0) T.cl_Course T.na_Course_start)))
(dss_cons (ds_if (dt_cmp dor_lt (dv 2) (de_blt dcr_len (by rfl) T.n_len (by decide +kernel) (da_cons (de_fld (dv 0) T.cl_Course T.na_Course_told) da_nil)) (nomark _))
(dss_one (ds_ret (de_ix dix (de_fld (dv 0) T.cl_Course T.na_Course_told) (dv 2))))
dss_nil)
(dss_one (ds_ret (de_call G_tail_number (hr.mono (by first | decide | omega)) rfl T.g_tail_number T.k_tail_number T.b_tail_number (takes_of rfl rfl rfl rfl) fo (dg_v (de_sl (de_fld (dv 0) T.cl_Course T.na_Course_told) (dx_some (de_neg (de_fld (dv 0) T.cl_Course T.na_Course_period))) dx_no) (dg_v (de_fld (dv 0) T.cl_Course T.na_Course_rise) (dg_v (de_op dor_add (de_op dor_sub (dv 2) (de_blt dcr_len (by rfl) T.n_len (by decide +kernel) (da_cons (de_fld (dv 0) T.cl_Course T.na_Course_told) da_nil))) (de_fld (dv 0) T.cl_Course T.na_Course_period)) dg_nil))))))))), ?_⟩
  walk_at "dy"
  walk_at "dx"
  · exact hX c
  · obtain ⟨_, hP⟩ := hP (by omega)
    rw [cval_lt (by omega)] at hP
    exact hP
  obtain ⟨hs, hP⟩ := hP (by omega)
  rw [cut_neg (by omega) (by rw [List.length_map]; omega), ← List.map_drop, List.length_map, Int.toNat_natCast]
  have hd : (told.drop (told.length - p)).length = p := by rw [List.length_drop]; omega
  refine ⟨told.drop (told.length - p), r, _, rfl, fun z => ?_, by omega, by omega, hs.le (by omega), hr', ?_⟩
  · rw [z] at hd
    simp at hd
    omega
  walk_at "dx"
  rw [hd, cval_drop hp hpl, show told.length - p + (n - s0 - (told.length : Int) + p).toNat = (n - s0).toNat by omega]
  exact hP
end

end

section
local macro_rules | `(tactic| walk_at "al") => `(tactic| first
  | omega
  | exact Or.inl (Or.inl ⟨by omega, by omega⟩)
  | exact Or.inl (Or.inr ⟨by omega, by omega⟩)
  | exact ⟨by omega, Or.inl (by omega)⟩
  | exact ⟨by omega, by omega, by omega, by omega⟩
  | exact ⟨by decide, by decide, by decide⟩)
local macro_rules | `(tactic| walk_at "bk") => `(tactic| repeat (first | exact BackE.nil | apply BackE.imm | apply BackE.own | apply BackE.hand))
local macro_rules | `(tactic| walk_at "ds1") => `(tactic| first
  | ((with_reducible refine' s_vi ?ee_ ?_); (case ee_ => rfl))
  | ((with_reducible refine' s_vs ?ee_ ?_); (case ee_ => rfl))
  | with_reducible refine s_c ?_
  | with_reducible refine s_aN ?_
  | with_reducible refine s_aC ?_
  | with_reducible refine s_op ?_
  | ((with_reducible refine' x_val2 ?ee_ ?ff_ ?_); (case ee_ => rfl); (case ff_ => rfl))
  | ((with_reducible refine' x_bl ?ee_ ?_); (case ee_ => rfl))
  | ((with_reducible refine' x_int ?ee_ ?_); (case ee_ => rfl))
  | ((with_reducible refine' x_val ?ee_ ?_); (case ee_ => rfl))
  | ((with_reducible refine' x_vals ?ee_ ?_); (case ee_ => rfl))
  | ((with_reducible refine' x_frzs ?ee_ ?ll_ ?_); (case ee_ => rfl); (case ll_ => rfl))
  | ((with_reducible refine' x_frzO ?ee_ ?_); (case ee_ => rfl))
  | ((with_reducible refine' x_frz2 ?ee_ ?ff_ ?_); (case ee_ => rfl); (case ff_ => rfl))
  | ((with_reducible refine' x_frz ?ee_ ?_); (case ee_ => rfl))
  | ((with_reducible refine' x_asg ?ee_ ?_); (case ee_ => rfl))
  | with_reducible refine o_addI ?_
  | with_reducible refine o_subI ?_
  | ((with_reducible refine' o_mulI ?cc_ ?_); (case cc_ => walk_at "al"))
  | ((with_reducible refine' o_divI ?cc_ ?_); (case cc_ => walk_at "al"))
  | ((with_reducible refine' o_modI ?cc_ ?_); (case cc_ => walk_at "al"))
  | ((with_reducible refine' o_powI ?cc_ ?_); (case cc_ => walk_at "al"))
  | with_reducible refine o_andI ?_
  | with_reducible refine o_ltI ?_
  | with_reducible refine o_leI ?_
  | with_reducible refine o_gtI ?_
  | with_reducible refine o_geI ?_
  | with_reducible refine o_eqI ?_
  | with_reducible refine o_eqS ?_
  | with_reducible refine o_eqP ?_
  | with_reducible refine o_neI ?_
  | with_reducible refine o_neS ?_
  | with_reducible refine o_isN_non ?_
  | with_reducible refine o_notN_non ?_
  | with_reducible refine o_isN_bl ?_
  | with_reducible refine o_notN_bl ?_
  | with_reducible refine o_isN_int ?_
  | with_reducible refine o_notN_int ?_
  | with_reducible refine o_isN_str ?_
  | with_reducible refine o_notN_str ?_
  | with_reducible refine o_isN_lst ?_
  | with_reducible refine o_notN_lst ?_
  | with_reducible refine o_isN_tup ?_
  | with_reducible refine o_notN_tup ?_
  | with_reducible refine o_isN_obj ?_
  | with_reducible refine o_notN_obj ?_
  | with_reducible refine o_eqB ?_
  | with_reducible refine o_isN' ?_
  | with_reducible refine o_isB' ?_
  | with_reducible refine o_notN' ?_
  | ((with_reducible refine' o_ixT ?ee_ ?ff_ ?_); (case ee_ => first | rfl | assumption); (case ff_ => first | rfl | assumption))
  | ((with_reducible refine' ixI ?aa_ ?bb_ ?_); (case aa_ => omega); (case bb_ => omega))
  | ((with_reducible refine' o_ixL ?ee_ ?ff_ ?_); (case ee_ => first | rfl | assumption); (case ff_ => first | rfl | assumption))
  | with_reducible refine o_slF ?_
  | with_reducible refine o_slL ?_
  | with_reducible refine o_slT ?_
  | with_reducible refine s_dnT ?_
  | with_reducible refine s_dnK ?_
  | with_reducible refine o_neP ?_
  | with_reducible refine o_neC ?_
  | ((with_reducible refine' o_fld ?ee_ ?_); (case ee_ => rfl))
  | with_reducible refine o_lenI ?_
  | with_reducible refine o_lenL ?_
  | with_reducible refine o_lenT ?_
  | with_reducible refine o_lenF ?_
  | with_reducible refine o_lenD ?_
  | with_reducible refine o_int ?_
  | with_reducible refine o_abs ?_
  | with_reducible refine o_max ?_
  | with_reducible refine o_min ?_
  | with_reducible refine o_list ?_
  | ((with_reducible refine' o_inT ?ee_ ?_); (case ee_ => rfl))
  | ((with_reducible refine' o_ninT ?ee_ ?_); (case ee_ => rfl))
  | with_reducible refine o_neg ?_
  | ((with_reducible refine' o_inF ?ee_ ?_); (case ee_ => rfl))
  | ((with_reducible refine' o_ninF ?ee_ ?_); (case ee_ => rfl))
  | with_reducible refine s_tup ?_
  | with_reducible refine s_lst ?_
  | with_reducible refine s_un ?_
  | with_reducible refine s_cl ?_
  | with_reducible refine s_test ?_
  | with_reducible refine s_and ?_
  | with_reducible refine s_or ?_
  | with_reducible refine s_not ?_
  | with_reducible refine s_andV ?_
  | with_reducible refine s_orV ?_
  | with_reducible refine s_notV ?_
  | with_reducible refine s_ifV ?_
  | with_reducible refine s_chain ?_
  | with_reducible refine x_ib ?_
  | with_reducible refine s_pN ?_
  | with_reducible refine s_pS ?_
  | with_reducible refine s_sl ?_
  | with_reducible refine s_sameL ?_
  | with_reducible refine o_isNB ?_
  | with_reducible refine s_fz ?_
  | with_reducible refine o_ixH ?_
  | ((with_reducible refine' x_noa ?ee_ ?_); (case ee_ => rfl))
  | ((with_reducible refine' x_lenN ?ee_ ?ff_ ?_); (case ee_ => omega); (case ff_ => omega))
  | ((with_reducible refine' x_le1000 ?ee_ ?_); (case ee_ => rfl))
  | with_reducible refine s_call ?_
  | ((with_reducible refine' x_con ?ee_ ?ff_ ?_); (case ee_ => rfl); (case ff_ => rfl))
  | ((with_reducible refine' s_callD ?ee_ ?ff_ ?_); (case ee_ => rfl); (case ff_ => rfl))
  | ((with_reducible refine' x_back ?ll_ ?ee_ ?_); (case ll_ => rfl); (case ee_ => rfl))
  | ((with_reducible refine' x_back1 ?ee_ ?_); (case ee_ => rfl))
  | with_reducible refine s_gaN ?_
  | with_reducible refine s_gaV ?_
  | ((with_reducible refine' s_gaR ?ee_ ?_); (case ee_ => rfl))
  | with_reducible refine s_meth ?_
  | with_reducible refine s_meth0 ?_
  | with_reducible refine s_methK ?_
  | with_reducible refine s_makeK ?_
  | ((with_reducible refine' x_frzsK ?ee_ ?ll_ ?_); (case ee_ => rfl); (case ll_ => rfl))
  | with_reducible refine s_prop ?_
  | with_reducible refine s_make ?_
  | with_reducible refine s_own2 ?_
  | with_reducible refine s_eqX ?_
  | with_reducible refine s_neX ?_
  | with_reducible refine s_rev ?_
  | with_reducible refine x_nb ?_
  | ((with_reducible refine' x_rev ?ee_ ?ff_ ?_); (case ee_ => rfl); (case ff_ => rfl))
  | with_reducible refine s_lenO ?_
  | ((with_reducible refine' s_mut ?ee_ ?_); (case ee_ => rfl))
  | ((with_reducible refine' x_mut ?ee_ ?ff_ ?_); (case ee_ => rfl); (case ff_ => rfl))
  | ((with_reducible refine' s_mut0 ?ee_ ?_); (case ee_ => rfl))
  | with_reducible refine m_clr ?_
  | with_reducible refine m_rev ?_
  | with_reducible refine s_dget ?_
  | with_reducible refine s_dget1 ?_
  | with_reducible refine s_dget2 ?_
  | ((with_reducible refine' x_isT ?ee_ ?_); (case ee_ => rfl))
  | ((with_reducible refine' x_isK ?ee_ ?_); (case ee_ => rfl))
  | ((with_reducible refine' x_get2 ?ee_ ?ff_ ?gg_ ?_); (case ee_ => rfl); (case ff_ => rfl); (case gg_ => rfl))
  | with_reducible refine s_din ?_
  | with_reducible refine s_dnin ?_
  | ((with_reducible refine' s_lookT ?ee_ ?_); (case ee_ => rfl))
  | ((with_reducible refine' s_lookK ?ee_ ?_); (case ee_ => rfl))
  | with_reducible refine s_seq ?_
  | with_reducible refine s_set ?_
  | with_reducible refine s_ret ?_
  | with_reducible refine s_retN ?_
  | with_reducible refine s_if ?_
  | with_reducible refine s_next ?_
  | with_reducible refine s_drop ?_
  | with_reducible refine s_brk ?_
  | with_reducible refine s_cnt ?_
  | with_reducible refine s_asg ?_
  | with_reducible refine s_raise ?_
  | with_reducible refine s_setIx ?_
  | ((with_reducible refine' s_gN ?ee_ ?_); (case ee_ => rfl))
  | with_reducible refine s_gNl ?_
  | with_reducible refine s_gCn ?_
  | ((with_reducible refine' s_gT ?ee_ ?_); (case ee_ => rfl))
  | ((with_reducible refine' s_gL ?ee_ ?_); (case ee_ => rfl))
  | with_reducible refine s_for ?_
  | with_reducible refine s_wSeq ?_
  | ((with_reducible refine' x_items ?ee_ ?ff_ ?_); (case ee_ => rfl); (case ff_ => rfl))
  | with_reducible refine s_rng1 ?_
  | ((with_reducible refine' x_rng1 ?ee_ ?aa_ ?bb_ ?_); (case ee_ => rfl); (case aa_ => omega); (case bb_ => omega))
  | with_reducible refine s_rng2 ?_
  | ((with_reducible refine' x_rng2 ?ee_ ?aa_ ?_); (case ee_ => rfl); (case aa_ => exact ⟨by omega, by omega, by omega, by omega⟩))
  | with_reducible refine s_enum ?_
  | ((with_reducible refine' x_enum ?ee_ ?_); (case ee_ => rfl))
  | with_reducible refine s_lc ?_
  | with_reducible refine s_lcG ?_
  | ((with_reducible refine' s_lcV ?ee_ ?ff_ ?_); (case ee_ => rfl); (case ff_ => rfl))
  | ((with_reducible refine' s_forV ?ee_ ?_); (case ee_ => rfl))
  | with_reducible refine isi_bl_bool ?_
  | with_reducible refine isi_bl_int ?_
  | with_reducible refine isi_bl_str ?_
  | with_reducible refine isi_bl_list ?_
  | with_reducible refine isi_bl_tuple ?_
  | with_reducible refine isi_int_bool ?_
  | with_reducible refine isi_int_int ?_
  | with_reducible refine isi_int_str ?_
  | with_reducible refine isi_int_list ?_
  | with_reducible refine isi_int_tuple ?_
  | with_reducible refine isi_str_bool ?_
  | with_reducible refine isi_str_int ?_
  | with_reducible refine isi_str_str ?_
  | with_reducible refine isi_str_list ?_
  | with_reducible refine isi_str_tuple ?_
  | with_reducible refine isi_lst_bool ?_
  | with_reducible refine isi_lst_int ?_
  | with_reducible refine isi_lst_str ?_
  | with_reducible refine isi_lst_list ?_
  | with_reducible refine isi_lst_tuple ?_
  | with_reducible refine isi_tup_bool ?_
  | with_reducible refine isi_tup_int ?_
  | with_reducible refine isi_tup_str ?_
  | with_reducible refine isi_tup_list ?_
  | with_reducible refine isi_tup_tuple ?_
  | with_reducible refine isi_non_bool ?_
  | with_reducible refine isi_non_int ?_
  | with_reducible refine isi_non_str ?_
  | with_reducible refine isi_non_list ?_
  | with_reducible refine isi_non_tuple ?_
  | ((with_reducible refine' o_rep1 ?aa_ ?_); (case aa_ => exact ⟨by omega, by omega⟩))
  | ((with_reducible refine' o_eqIs ?aa_ ?bb_ ?_); (case aa_ => first | omega | (simp only [List.length_map, List.length_range, List.length_replicate]; omega)); (case bb_ => first | omega | (simp only [List.length_map, List.length_range, List.length_replicate]; omega)))
  | with_reducible refine o_intB ?_
  | ((with_reducible refine' o_neIs ?aa_ ?bb_ ?_); (case aa_ => first | omega | (simp only [List.length_map, List.length_range, List.length_replicate]; omega)); (case bb_ => first | omega | (simp only [List.length_map, List.length_range, List.length_replicate]; omega)))
  | with_reducible refine s_par ?_
  | ((with_reducible refine' x_par ?ee_ ?ff_ ?gg_ ?_); (case ee_ => rfl); (case ff_ => rfl); (case gg_ => rfl))
  | with_reducible refine s_rng1L ?_
  | ((with_reducible refine' x_rng1L ?ee_ ?_); (case ee_ => rfl))
  | with_reducible refine s_rng2L ?_
  | ((with_reducible refine' x_rng2L ?ee_ ?_); (case ee_ => rfl))
  | with_reducible refine s_fset ?_
  | ((with_reducible refine' x_fset ?ee_ ?ff_ ?gg_ ?_); (case ee_ => rfl); (case ff_ => rfl); (case gg_ => rfl))
  | with_reducible refine s_tryG ?_
  | ((with_reducible refine' s_xv ?ee_ ?ff_ ?gg_ ?_); (case ee_ => rfl); (case ff_ => assumption); (case gg_ => assumption))
  | ((with_reducible refine' s_xis ?ee_ ?ff_ ?_); (case ee_ => rfl); (case ff_ => assumption))
  | ((with_reducible refine' x_xis ?ee_ ?ff_ ?_); (case ee_ => rfl); (case ff_ => assumption))
  | ((with_reducible refine' x_clear ?ee_ ?_); (case ee_ => rfl))
  | with_reducible refine s_yes ?_
  | ((with_reducible refine' s_end ?ee_ ?bb_ ?_); (case ee_ => rfl); (case bb_ => walk_at "bk"))
  | ((with_reducible refine' x_pxT ?ee_ ?_); (case ee_ => assumption))
  | with_reducible refine x_got rfl ?_
  | with_reducible refine x_in0 ?_
  | with_reducible refine x_inS ?_
  | ((with_reducible refine' s_gVal ?ee_ ?_); (case ee_ => rfl))
  | ((with_reducible refine' s_gTag ?ee_ ?_); (case ee_ => rfl))
  | ((with_reducible refine' x_px ?bb_ ?_); (case bb_ => walk_at "bk"))
  | ((with_reducible refine' s_endN ?bb_ ?_); (case bb_ => walk_at "bk"))
  | with_reducible refine iteT ?_
  | with_reducible refine iteF ?_
  | with_reducible refine r_iteNf ?_
  | with_reducible refine r_iteNt ?_)
local macro_rules | `(tactic| walk_at "ds") => `(tactic| (repeat' (walk_at "ds1")))
set_option hygiene false in
local macro_rules | `(tactic| walk_at "dx") => `(tactic| (repeat' (first | walk_at "ds1" | with_reducible refine (fun (a : Addr) => ?_ : ∀ _ : Addr, _) | with_reducible refine ite_d (fun c => ?_) (fun c => ?_) | with_reducible refine ite_nd (fun c => ?_) (fun c => ?_) | with_reducible refine ite_nb (fun c => ?_) (fun c => ?_) | with_reducible refine ite_b (fun c => ?_) (fun c => ?_))))
set_option hygiene false in
local macro_rules | `(tactic| walk_at "dy") => `(tactic| (repeat' (first | walk_at "ds1" | with_reducible refine (fun (a : Addr) => ?_ : ∀ _ : Addr, _))))
/-! ### drawn courses -/
theorem ixLit {ds : List D} {z : Int} {P : Ent → Prop} (h0 : 0 ≤ z) (h1 : z < ds.length) (k : ∀ d, d ∈ ds → P (.imm d)) : oIx (.lst ds) (.int z) P := by
  have hz : z.toNat < ds.length := by omega
  refine ⟨z.toNat, ds[z.toNat], ?_, List.getElem?_eq_getElem hz, k _ (List.getElem_mem hz)⟩
  unfold ixN
  rw [if_pos h0, if_pos h1]
/-- one of three numbers -/
theorem ix3 {a b c z : Int} {P : Ent → Prop} (h0 : 0 ≤ z) (h1 : z < 3) (k : ∀ d, (d = a ∨ d = b ∨ d = c) → P (.imm (.int d))) : oIx (.lst [.int a, .int b, .int c]) (.int z) P := ixLit h0 (by simpa using h1) fun d h => by
  simp only [List.mem_cons, List.not_mem_nil, or_false] at h
  rcases h with rfl | rfl | rfl
  · exact k _ (.inl rfl)
  · exact k _ (.inr (.inl rfl))
  · exact k _ (.inr (.inr rfl))
theorem ix2 {a b z : Int} {P : Ent → Prop} (h0 : 0 ≤ z) (h1 : z < 2) (k : ∀ d, (d = a ∨ d = b) → P (.imm (.int d))) : oIx (.lst [.int a, .int b]) (.int z) P := ixLit h0 (by simpa using h1) fun d h => by
  simp only [List.mem_cons, List.not_mem_nil, or_false] at h
  rcases h with rfl | rfl
  · exact k _ (.inl rfl)
  · exact k _ (.inr rfl)
/-- the cells: all ints -/
theorem cells_int {b : Int} {ns : List Int} {n i : Nat} {c : D} (h : ([D.int b] ++ (ns.map D.int).take n)[i]? = some c) : ∃ cell : Int, c = .int cell := by
  have m := List.mem_of_getElem? h
  rcases List.mem_append.mp m with m | m
  · exact ⟨b, List.mem_singleton.mp m⟩
  · obtain ⟨k, _, e⟩ := List.mem_map.mp (List.mem_of_mem_take m)
    exact ⟨k, e.symm⟩
structure CrsOk (B : Nat) (s : Int) (row : List Int) (step rise : Int) : Prop where
  s1 : 1 ≤ s
  s2 : s < 2 ^ B
  e1 : 1 ≤ step
  e2 : step ≤ row.length
  l : row.length ≤ 600
  m : rise.natAbs < 2 ^ B
theorem CrsOk.up {B C : Nat} {s : Int} {row : List Int} {step rise : Int} (h : CrsOk B s row step rise) (bc : B ≤ C) : CrsOk C s row step rise := by
  have z : 2 ^ B ≤ 2 ^ C := Nat.pow_le_pow_right (by decide) bc
  have z' : (2 : Int) ^ B ≤ 2 ^ C := by
    have : ((2 ^ B : Nat) : Int) ≤ ((2 ^ C : Nat) : Int) := Int.ofNat_le.mpr z
    push_cast at this
    exact this
  exact ⟨h.s1, Int.lt_of_lt_of_le h.s2 z', h.e1, h.e2, h.l, Nat.lt_of_lt_of_le h.m z⟩
abbrev crsT (s : Int) (row : List Int) (step rise : Int) : D := .tup [.int s, intsD row, .int step, .int rise]
def conCrs : Con := fun es P _ => ∃ (l : Addr) (n most : Int), es = [.own l (.lst [.int n]), .int most] ∧ 4 ≤ most ∧ most ≤ 100 ∧ ∀ (s : Int) (row : List Int) (step rise n' : Int), CrsOk 150 s row step rise → (row.length : Int) ≤ 59 + most → step ≤ most → (∀ x ∈ row, x.natAbs < 2 ^ 150) → P (.imm (crsT s row step rise)) [.own l (.lst [.int n']), .int most]
def conVal : Con := fun es P _ => ∃ (s : Int) (row : List Int) (step rise k : Int), es = [.imm (crsT s row step rise), .int k] ∧ CrsOk 300 s row step rise ∧ 0 ≤ k ∧ Sm k ∧ P (.int (cval row step.toNat rise k.toNat)) es
section
variable {P : Program} {w : World} {K : PySem.W.Frag} {mg : Str → Option Value} {base : Heap} {A : Ad}
theorem okd__law_course (T : Txt K mg A) : FnOk P w K mg base (L2.CX P w) (2 + 1) A.f__law_course A.d__law_course P__law_course (spD K conCrs) := by
  have G__law_pick := okd__law_pick (P := P) (w := w) (base := base) T
  refine okD_fn T.F__law_course sc__law_course (fun es P PX h => ?_) (fun cdv A' outer s H I E es R PX hr fo hc => ?_)
  · obtain ⟨l, n, most, rfl, _⟩ := h
    rfl
  obtain ⟨l, n, most, rfl, hm1, hm2, hP⟩ := hc
  have hu := hu_of hr
  refine ⟨_, (dss_cons (ds_set (i := 2) sc__law_course.nd rfl (Or.inl rfl) (de_lst (da_cons de_int (da_cons de_int (da_cons (de_op dor_pow de_int de_int) da_nil)))))
(dss_cons (ds_set (i := 3) sc__law_course.nd rfl (Or.inl rfl) (de_cmp (dor_eq hr.units) (de_call G__law_pick (hr.mono (by first | decide | omega)) rfl T.g__law_pick T.k__law_pick T.b__law_pick (takes_of rfl rfl rfl rfl) fo (gr 0 (dg_v de_int dg_nil))) de_int (nomark _)))
(dss_cons (ds_set (i := 4) sc__law_course.nd rfl (Or.inr rfl) (de_ix dix (dv 2) (de_call G__law_pick (hr.mono (by first | decide | omega)) rfl T.g__law_pick T.k__law_pick T.b__law_pick (takes_of rfl rfl rfl rfl) fo (gr 0 (dg_v de_int dg_nil)))))
(dss_cons (ds_set (i := 5) sc__law_course.nd rfl (Or.inl rfl) (de_op dor_sub (de_op dor_mul (de_ix dix (de_lst (da_cons de_int (da_cons de_int (da_cons de_int da_nil)))) (de_call G__law_pick (hr.mono (by first | decide | omega)) rfl T.g__law_pick T.k__law_pick T.b__law_pick (takes_of rfl rfl rfl rfl) fo (gr 0 (dg_v de_int dg_nil)))) (de_op dor_add de_int (de_call G__law_pick (hr.mono (by first | decide | omega)) rfl T.g__law_pick T.k__law_pick T.b__law_pick (takes_of rfl rfl rfl rfl) fo (gr 0 (dg_v (dv 4) dg_nil))))) (de_op dor_mul (de_call G__law_pick (hr.mono (by first | decide | omega)) rfl T.g__law_pick T.k__law_pick T.b__law_pick (takes_of rfl rfl rfl rfl) fo (gr 0 (dg_v de_int dg_nil))) (de_call G__law_pick (hr.mono (by first | decide | omega)) rfl T.g__law_pick T.k__law_pick T.b__law_pick (takes_of rfl rfl rfl rfl) fo (gr 0 (dg_v (dv 4) dg_nil))))))
(dss_cons (ds_set (i := 6) sc__law_course.nd rfl (Or.inl rfl) (de_op dor_add de_int (de_call G__law_pick (hr.mono (by first | decide | omega)) rfl T.g__law_pick T.k__law_pick T.b__law_pick (takes_of rfl rfl rfl rfl) fo (gr 0 (dg_v (de_ix dix (de_lst (da_cons de_int (da_cons de_int (da_cons (de_op dor_sub (de_op dor_pow de_int de_int) de_int) da_nil)))) (de_call G__law_pick (hr.mono (by first | decide | omega)) rfl T.g__law_pick T.k__law_pick T.b__law_pick (takes_of rfl rfl rfl rfl) fo (gr 0 (dg_v de_int dg_nil)))) dg_nil)))))
(dss_cut (ds_set (i := 7) sc__law_course.nd rfl (Or.inl rfl) (de_op dor_add de_int (de_call G__law_pick (hr.mono (by first | decide | omega)) rfl T.g__law_pick T.k__law_pick T.b__law_pick (takes_of rfl rfl rfl rfl) fo (gr 0 (dg_v (de_ix dix (de_lst (da_cons de_int (da_cons (dv 1) da_nil))) (de_typ dcr_int (by rfl) T.n_int (by decide +kernel) (da_cons (dv 3) da_nil))) dg_nil)))))
(dss_cons (ds_set (i := 8) sc__law_course.nd rfl (Or.inr rfl) (de_lcG (own := [("_law_k", 10)]) (by rfl) sc__law_course.nd (di_rng1 (by rfl) T.n_range (da_cons de_int da_nil)) (blkOk_by (own := [("_law_k", 10)]) (N := N__law_course) (sc := defScope s__law_course) (by decide +kernel)) (fun _ _ _ _ _ => by exact (dg_name (i := 10) sc__law_course.nd rfl (Or.inl rfl))) (fun _ _ _ _ _ => by exact dts_nil) (fun _ _ _ _ _ => by exact (de_op dor_sub (de_call G__law_pick (hr.mono (by first | decide | omega)) rfl T.g__law_pick T.k__law_pick T.b__law_pick takes0 frok_nox (gr 0 (dg_v (de_op dor_mul de_int (dv 4)) dg_nil))) (dv 4))) (by rfl)))
(dss_cons (ds_setLc (i := 9) (own := [("_law_k", 10)]) (by rfl) sc__law_course.nd rfl rfl (sw_true rfl rfl rfl (by decide +kernel)) (di_rng1 (by rfl) T.n_range (da_cons (de_call G__law_pick (hr.mono (by first | decide | omega)) rfl T.g__law_pick T.k__law_pick T.b__law_pick (takes_of rfl rfl rfl rfl) fo (gr 0 (dg_v (de_ix dix (de_lst (da_cons de_int (da_cons de_int da_nil))) (de_typ dcr_int (by rfl) T.n_int (by decide +kernel) (da_cons (dv 3) da_nil))) dg_nil))) da_nil)) (blkOk_by (own := [("_law_k", 10)]) (N := N__law_course) (sc := defScope s__law_course) (by decide +kernel)) (fun _ _ _ _ _ => by exact (dg_name (i := 10) sc__law_course.nd rfl (Or.inl rfl))) (fun _ _ _ _ _ => by exact dts_nil) (fun _ _ _ _ _ => by exact (de_ix dix (dv 8) (de_op dor_mod (de_op dor_add (de_op dor_mul (dv 10) (dv 10)) de_int) de_int))) (by rfl))
(dss_one (ds_ret (de_tup (da_cons (dv 6) (da_cons (de_op dor_add (dv 9) (de_lc (own := [("_law_k", 10)]) (by rfl) sc__law_course.nd (di_rng1 (by rfl) T.n_range (da_cons (dv 7) da_nil)) (blkOk_by (own := [("_law_k", 10)]) (N := N__law_course) (sc := defScope s__law_course) (by decide +kernel)) (fun _ _ _ _ _ => by exact (dg_name (i := 10) sc__law_course.nd rfl (Or.inl rfl))) (fun _ _ _ _ _ => by exact dts_nil) (fun _ _ _ _ _ => by exact (de_ix dix (dv 8) (de_op dor_mod (de_op dor_add (de_op dor_mul (dv 10) (dv 10)) (de_op dor_div (dv 10) de_int)) de_int))) (by rfl))) (da_cons (dv 7) (da_cons (dv 5) da_nil))))))))))))))), ?_⟩
  walk_at "dy"
  refine ⟨l, n, 6, rfl, by decide, by decide, fun r n1 r0 r1 => ?_⟩
  walk_at "dx"
  refine ⟨l, n1, 3, rfl, by decide, by decide, fun r2 n2 r20 r21 => ?_⟩
  walk_at "dx"
  refine ix3 r20 r21 fun size hsz => ?_
  have hs1 : 1 ≤ size ∧ size ≤ 10 ^ 36 := by rcases hsz with rfl | rfl | rfl <;> exact ⟨by decide, by decide⟩
  clear hsz
  walk_at "dx"
  refine ⟨l, n2, 3, rfl, by decide, by decide, fun r3 n3 r30 r31 => ?_⟩
  walk_at "dx"
  refine ix3 r30 r31 fun f hf => ?_
  walk_at "dx"
  have b36 : (10 : Int) ^ 36 < 2 ^ 120 := by decide
  refine ⟨l, n3, size, rfl, hs1.1, .inr ?_, fun r4 n4 r40 r41 => ?_⟩
  · have := log2_le (n := size) (k := 120) (by omega) (by omega)
    omega
  walk_at "dx"
  refine ⟨l, n4, 2, rfl, by decide, by decide, fun r5 n5 r50 r51 => ?_⟩
  walk_at "dx"
  refine ⟨l, n5, size, rfl, hs1.1, .inr ?_, fun r6 n6 r60 r61 => ?_⟩
  · have := log2_le (n := size) (k := 120) (by omega) (by omega)
    omega
  walk_at "dx"
  have hf1 : 0 ≤ f ∧ f ≤ 2 := by rcases hf with rfl | rfl | rfl <;> exact ⟨by decide, by decide⟩
  refine ⟨l, n6, 3, rfl, by decide, by decide, fun r7 n7 r70 r71 => ?_⟩
  walk_at "dx"
  refine ix3 r70 r71 fun g hg => ?_
  have hg1 : 1 ≤ g ∧ g < 2 ^ 120 := by rcases hg with rfl | rfl | rfl <;> exact ⟨by decide, by decide⟩
  walk_at "dx"
  refine ⟨l, n7, g, rfl, hg1.1, .inr ?_, fun r8 n8 r80 r81 => ?_⟩
  · have := log2_le (n := g) (k := 120) (by omega) hg1.2
    omega
  have bm : (f * (1 + r4) - r5 * r6).natAbs < 2 ^ 150 := by
    have q1 : f * (1 + r4) ≤ 2 * (2 ^ 120) := Int.mul_le_mul hf1.2 (by omega) (by omega) (by decide)
    have q2 : 0 ≤ f * (1 + r4) := Int.mul_nonneg hf1.1 (by omega)
    have q3 : r5 * r6 ≤ 2 * (2 ^ 120) := Int.mul_le_mul (by omega) (by omega) r60 (by decide)
    have q4 : 0 ≤ r5 * r6 := Int.mul_nonneg r50 r60
    omega
  generalize f * (1 + r4) - r5 * r6 = rise at *
  walk_at "dx"
  refine s_cut (fun e => ∃ (n9 step : Int) (c : Addr), e = [some (.own l (.lst [.int n9])), iI most, some (.own c (.lst [.int 3, .int 1000, .int (10 ^ Int.toNat 36)])), iD (.bl (decide (r = 5))), iI size, iI rise, iI (1 + r8), iI step, none, none, none] ∧ 1 ≤ step ∧ step ≤ most) ?_ ?_
  · walk_at "dx"
    refine ix2 (by split <;> decide) (by split <;> decide) fun t ht => ?_
    walk_at "dx"
    have ht1 : 1 ≤ t ∧ t ≤ most := by rcases ht with rfl | rfl <;> exact ⟨by omega, by omega⟩
    refine ⟨l, n8, t, rfl, by omega, .inl (by omega), fun r9 n9 r90 r91 => ?_⟩
    walk_at "dx"
    exact ⟨n9, _, _, rfl, by omega, by omega⟩
  rintro e ⟨n9, step, cc, rfl, st1, st2⟩
  walk_at "dx"
  refine ⟨by rw [rngD_len]; decide, fun i e acc => ∃ (n10 : Int) (vs : List Int), e = [some (.own l (.lst [.int n10])), iI most, some (.own cc (.lst [.int 3, .int 1000, .int (10 ^ Int.toNat 36)])), iD (.bl (decide (r = 5))), iI size, iI rise, iI (1 + r8), iI step, none, none, none] ∧ acc = vs.map D.int ∧ vs.length = i ∧ ∀ x ∈ vs, x.natAbs < 2 ^ 150, ⟨n9, [], rfl, rfl, rfl, by simp⟩, ?_, ?_⟩
  · rintro i c e acc hc ⟨n10, vs, rfl, rfl, hvl, hvs⟩
    obtain ⟨hi, rfl⟩ := rng_get hc
    refine ⟨rfl, ?_⟩
    walk_at "dx"
    refine ⟨l, n10, 2 * size, rfl, by omega, .inr ?_, fun r10 n11 r100 r101 => ?_⟩
    · have := log2_le (n := 2 * size) (k := 121) (by omega) (by omega)
      omega
    walk_at "dx"
    refine ⟨n11, vs ++ [r10 - size], rfl, by rw [List.map_append]; rfl, by rw [List.length_append, hvl]; rfl, fun x hx => ?_⟩
    rcases List.mem_append.mp hx with hx | hx
    · exact hvs x hx
    · rw [List.mem_singleton] at hx
      subst hx
      omega
  rintro e acc ⟨n10, vs, rfl, rfl, hvl, hvs⟩
  rw [rngD_len] at hvl
  have hv7 : vs.length = 7 := hvl
  have inVs : ∀ i : Nat, i < 7 → (vs.getD i 0).natAbs < 2 ^ 150 := fun i hi => by
    rw [List.getD_eq_getElem?_getD, List.getElem?_eq_getElem (by omega)]
    exact hvs _ (List.getElem_mem _)
  walk_at "dx"
  refine ix2 (by split <;> decide) (by split <;> decide) fun t ht => ?_
  have ht1 : 1 ≤ t ∧ t ≤ 60 := by rcases ht with rfl | rfl <;> exact ⟨by omega, by omega⟩
  walk_at "dx"
  refine ⟨l, n10, t, rfl, by omega, .inl (by omega), fun r11 n12 r110 r111 => ?_⟩
  walk_at "dx"
  have mod7 : ∀ x : Int, 0 ≤ x % 7 ∧ x % 7 < 7 := fun x => ⟨Int.emod_nonneg _ (by decide), Int.emod_lt_of_pos _ (by decide)⟩
  refine ⟨by rw [rngD_len]; omega, fun i acc => ∃ us : List Int, acc = us.map D.int ∧ us.length = i ∧ ∀ x ∈ us, x.natAbs < 2 ^ 150, ⟨[], rfl, rfl, by simp⟩, ?_, ?_⟩
  · rintro i c acc hc ⟨us, rfl, hul, hus⟩
    obtain ⟨hi, rfl⟩ := rng_get hc
    walk_at "dx"
    refine ⟨rfl, us ++ [_], by rw [List.map_append]; rfl, by rw [List.length_append, hul]; rfl, fun x hx => ?_⟩
    rcases List.mem_append.mp hx with hx | hx
    · exact hus x hx
    · rw [List.mem_singleton] at hx
      subst hx
      refine inVs _ ?_
      have := mod7 ((0 + (i : Int)) * (0 + (i : Int)) + 3)
      omega
  rintro acc ⟨us, rfl, hul, hus⟩
  rw [rngD_len] at hul
  walk_at "dx"
  refine ⟨by rw [rngD_len]; omega, fun i acc => ∃ us : List Int, acc = us.map D.int ∧ us.length = i ∧ ∀ x ∈ us, x.natAbs < 2 ^ 150, ⟨[], rfl, rfl, by simp⟩, ?_, ?_⟩
  · rintro i c acc hc ⟨ws, rfl, hwl, hws⟩
    obtain ⟨hi, rfl⟩ := rng_get hc
    walk_at "dx"
    refine ⟨rfl, ws ++ [_], by rw [List.map_append]; rfl, by rw [List.length_append, hwl]; rfl, fun x hx => ?_⟩
    rcases List.mem_append.mp hx with hx | hx
    · exact hws x hx
    · rw [List.mem_singleton] at hx
      subst hx
      refine inVs _ ?_
      have := mod7 ((0 + (i : Int)) * (0 + (i : Int)) + (0 + (i : Int)) / 3)
      omega
  rintro acc ⟨ws, rfl, hwl, hws⟩
  rw [rngD_len] at hwl
  walk_at "dx"
  refine o_addL (Nat.le_trans (m := 1000) (by rw [List.length_map, List.length_map]; omega) (by decide)) ?_
  rw [← List.map_append]
  walk_at "dx"
  refine hP _ _ _ _ _ ⟨by omega, by omega, st1, ?_, ?_, bm⟩ ?_ st2 fun x hx => ?_
  · rw [List.length_append]; omega
  · rw [List.length_append]; omega
  · rw [List.length_append]; omega
  · rcases List.mem_append.mp hx with hx | hx
    · exact hus x hx
    · exact hws x hx
theorem okd__law_value (T : Txt K mg A) : FnOk P w K mg base (L2.CX P w) (0 + 1) A.f__law_value A.d__law_value P__law_value (spD K conVal) := by
  refine okD_fn T.F__law_value sc__law_value (fun es P PX h => ?_) (fun cdv A' outer s H I E es R PX hr fo hc => ?_)
  · obtain ⟨s0, row, step, rise, k, rfl, _⟩ := h
    rfl
  obtain ⟨s0, row, step, rise, k, rfl, ok, h0, hs, hP⟩ := hc
  have hu := hu_of hr
  refine ⟨_, (dss_cons (ds_set (i := 2) sc__law_value.nd rfl (Or.inl rfl) (de_ix dix (dv 0) de_int))
(dss_cons (ds_if (dt_cmp dor_lt (dv 1) (de_blt dcr_len (by rfl) T.n_len (by decide +kernel) (da_cons (dv 2) da_nil)) (nomark _))
(dss_one (ds_ret (de_ix dix (dv 2) (dv 1))))
dss_nil)
(dss_cons (ds_set (i := 3) sc__law_value.nd rfl (Or.inl rfl) (de_op dor_add (de_op dor_div (de_op dor_sub (dv 1) (de_blt dcr_len (by rfl) T.n_len (by decide +kernel) (da_cons (dv 2) da_nil))) (de_ix dix (dv 0) de_int)) de_int))
(dss_one (ds_ret (de_op dor_add (de_ix dix (dv 2) (de_op dor_sub (dv 1) (de_op dor_mul (dv 3) (de_ix dix (dv 0) de_int)))) (de_op dor_mul (dv 3) (de_ix dix (dv 0) de_int)))))))), ?_⟩
  walk_at "dy"
  have e1 := ok.e1
  have e2 := ok.e2
  have hl := ok.l
  have hm : Sm rise := Nat.lt_of_lt_of_le ok.m (Nat.pow_le_pow_right (by decide) (by decide))
  obtain ⟨e, rfl⟩ : ∃ e : Nat, step = e := ⟨step.toNat, by omega⟩
  walk_at "dx"
  · rw [cval_lt (by omega)] at hP
    exact hP
  have key : (k - ((k - (row.length : Int)) / (e : Int) + 1) * (e : Int)).toNat = k.toNat - ((k.toNat - row.length) / e + 1) * e ∧ 0 ≤ k - ((k - (row.length : Int)) / (e : Int) + 1) * (e : Int) ∧ k - ((k - (row.length : Int)) / (e : Int) + 1) * (e : Int) < row.length ∧ (k - (row.length : Int)) / (e : Int) = (((k.toNat - row.length) / e : Nat) : Int) := by
    have a : (k - (row.length : Int)) / (e : Int) = (((k.toNat - row.length) / e : Nat) : Int) := by
      push_cast
      rw [Int.natCast_sub (by omega), Int.toNat_of_nonneg h0]
    have b := Int.mul_ediv_add_emod (k - (row.length : Int)) (e : Int)
    have b1 := Int.emod_nonneg (k - (row.length : Int)) (b := (e : Int)) (by omega)
    have b2 := Int.emod_lt_of_pos (k - (row.length : Int)) (b := (e : Int)) (by omega)
    have c1 : ((k - (row.length : Int)) / (e : Int) + 1) * (e : Int) = (e : Int) * ((k - (row.length : Int)) / (e : Int)) + e := by
      rw [Int.add_mul, Int.one_mul, Int.mul_comm]
    have c2 : 0 ≤ (e : Int) * ((k - (row.length : Int)) / (e : Int)) := Int.mul_nonneg (by omega) (Int.ediv_nonneg (by omega) (by omega))
    refine ⟨?_, by omega, by omega, a⟩
    rw [c1, a]
    have d1 : ((k.toNat - row.length) / e + 1) * e = e * ((k.toNat - row.length) / e) + e := by rw [Nat.add_mul, Nat.one_mul, Nat.mul_comm]
    rw [d1]
    rw [a] at b c2
    generalize hq : (k.toNat - row.length) / e = q at *
    have d2 : ((e * q : Nat) : Int) = (e : Int) * (q : Int) := by push_cast; rfl
    omega
  refine ixI key.2.1 key.2.2.1 ?_
  walk_at "dx"
  have hsq : Sm ((k - (row.length : Int)) / (e : Int) + 1) := by
    rw [key.2.2.2]
    refine hs.le ?_
    have : (k.toNat - row.length) / e ≤ k.toNat - row.length := Nat.div_le_self _ _
    rw [show (((k.toNat - row.length) / e : Nat) : Int) + 1 = (((k.toNat - row.length) / e + 1 : Nat) : Int) from rfl, Int.natAbs_natCast]
    omega
  refine o_mulI (mul_sm hsq hm) ?_
  walk_at "dx"
  rw [key.1, key.2.2.2]
  unfold cval at hP
  rw [if_neg (by omega), Int.toNat_natCast] at hP
  exact hP
end

end

section
local macro_rules | `(tactic| walk_at "al") => `(tactic| first
  | omega
  | exact Or.inl (Or.inl ⟨by omega, by omega⟩)
  | exact Or.inl (Or.inr ⟨by omega, by omega⟩)
  | exact ⟨by omega, Or.inl (by omega)⟩
  | exact ⟨by omega, by omega, by omega, by omega⟩
  | exact ⟨by decide, by decide, by decide⟩)
local macro_rules | `(tactic| walk_at "bk") => `(tactic| repeat (first | exact BackE.nil | apply BackE.imm | apply BackE.own | apply BackE.hand))
local macro_rules | `(tactic| walk_at "ds1") => `(tactic| first
  | ((with_reducible refine' s_vi ?ee_ ?_); (case ee_ => rfl))
  | ((with_reducible refine' s_vs ?ee_ ?_); (case ee_ => rfl))
  | with_reducible refine s_c ?_
  | with_reducible refine s_aN ?_
  | with_reducible refine s_aC ?_
  | with_reducible refine s_op ?_
  | ((with_reducible refine' x_val2 ?ee_ ?ff_ ?_); (case ee_ => rfl); (case ff_ => rfl))
  | ((with_reducible refine' x_bl ?ee_ ?_); (case ee_ => rfl))
  | ((with_reducible refine' x_int ?ee_ ?_); (case ee_ => rfl))
  | ((with_reducible refine' x_val ?ee_ ?_); (case ee_ => rfl))
  | ((with_reducible refine' x_vals ?ee_ ?_); (case ee_ => rfl))
  | ((with_reducible refine' x_frzs ?ee_ ?ll_ ?_); (case ee_ => rfl); (case ll_ => rfl))
  | ((with_reducible refine' x_frzO ?ee_ ?_); (case ee_ => rfl))
  | ((with_reducible refine' x_frz2 ?ee_ ?ff_ ?_); (case ee_ => rfl); (case ff_ => rfl))
  | ((with_reducible refine' x_frz ?ee_ ?_); (case ee_ => rfl))
  | ((with_reducible refine' x_asg ?ee_ ?_); (case ee_ => rfl))
  | with_reducible refine o_addI ?_
  | with_reducible refine o_subI ?_
  | ((with_reducible refine' o_mulI ?cc_ ?_); (case cc_ => walk_at "al"))
  | ((with_reducible refine' o_divI ?cc_ ?_); (case cc_ => walk_at "al"))
  | ((with_reducible refine' o_modI ?cc_ ?_); (case cc_ => walk_at "al"))
  | ((with_reducible refine' o_powI ?cc_ ?_); (case cc_ => walk_at "al"))
  | with_reducible refine o_andI ?_
  | with_reducible refine o_ltI ?_
  | with_reducible refine o_leI ?_
  | with_reducible refine o_gtI ?_
  | with_reducible refine o_geI ?_
  | with_reducible refine o_eqI ?_
  | with_reducible refine o_eqS ?_
  | with_reducible refine o_eqP ?_
  | with_reducible refine o_neI ?_
  | with_reducible refine o_neS ?_
  | with_reducible refine o_isN_non ?_
  | with_reducible refine o_notN_non ?_
  | with_reducible refine o_isN_bl ?_
  | with_reducible refine o_notN_bl ?_
  | with_reducible refine o_isN_int ?_
  | with_reducible refine o_notN_int ?_
  | with_reducible refine o_isN_str ?_
  | with_reducible refine o_notN_str ?_
  | with_reducible refine o_isN_lst ?_
  | with_reducible refine o_notN_lst ?_
  | with_reducible refine o_isN_tup ?_
  | with_reducible refine o_notN_tup ?_
  | with_reducible refine o_isN_obj ?_
  | with_reducible refine o_notN_obj ?_
  | with_reducible refine o_eqB ?_
  | with_reducible refine o_isN' ?_
  | with_reducible refine o_isB' ?_
  | with_reducible refine o_notN' ?_
  | ((with_reducible refine' o_ixT ?ee_ ?ff_ ?_); (case ee_ => first | rfl | assumption); (case ff_ => first | rfl | assumption))
  | ((with_reducible refine' ixI ?aa_ ?bb_ ?_); (case aa_ => omega); (case bb_ => omega))
  | ((with_reducible refine' o_ixL ?ee_ ?ff_ ?_); (case ee_ => first | rfl | assumption); (case ff_ => first | rfl | assumption))
  | with_reducible refine o_slF ?_
  | with_reducible refine o_slL ?_
  | with_reducible refine o_slT ?_
  | with_reducible refine s_dnT ?_
  | with_reducible refine s_dnK ?_
  | with_reducible refine o_neP ?_
  | with_reducible refine o_neC ?_
  | ((with_reducible refine' o_fld ?ee_ ?_); (case ee_ => rfl))
  | with_reducible refine o_lenI ?_
  | with_reducible refine o_lenL ?_
  | with_reducible refine o_lenT ?_
  | with_reducible refine o_lenF ?_
  | with_reducible refine o_lenD ?_
  | with_reducible refine o_int ?_
  | with_reducible refine o_abs ?_
  | with_reducible refine o_max ?_
  | with_reducible refine o_min ?_
  | with_reducible refine o_list ?_
  | ((with_reducible refine' o_inT ?ee_ ?_); (case ee_ => rfl))
  | ((with_reducible refine' o_ninT ?ee_ ?_); (case ee_ => rfl))
  | with_reducible refine o_neg ?_
  | ((with_reducible refine' o_inF ?ee_ ?_); (case ee_ => rfl))
  | ((with_reducible refine' o_ninF ?ee_ ?_); (case ee_ => rfl))
  | with_reducible refine s_tup ?_
  | with_reducible refine s_lst ?_
  | with_reducible refine s_un ?_
  | with_reducible refine s_cl ?_
  | with_reducible refine s_test ?_
  | with_reducible refine s_and ?_
  | with_reducible refine s_or ?_
  | with_reducible refine s_not ?_
  | with_reducible refine s_andV ?_
  | with_reducible refine s_orV ?_
  | with_reducible refine s_notV ?_
  | with_reducible refine s_ifV ?_
  | with_reducible refine s_chain ?_
  | with_reducible refine x_ib ?_
  | with_reducible refine s_pN ?_
  | with_reducible refine s_pS ?_
  | with_reducible refine s_sl ?_
  | with_reducible refine s_sameL ?_
  | with_reducible refine o_isNB ?_
  | with_reducible refine s_fz ?_
  | with_reducible refine o_ixH ?_
  | ((with_reducible refine' x_noa ?ee_ ?_); (case ee_ => rfl))
  | ((with_reducible refine' x_lenN ?ee_ ?ff_ ?_); (case ee_ => omega); (case ff_ => omega))
  | ((with_reducible refine' x_le1000 ?ee_ ?_); (case ee_ => rfl))
  | with_reducible refine s_call ?_
  | ((with_reducible refine' x_con ?ee_ ?ff_ ?_); (case ee_ => rfl); (case ff_ => rfl))
  | ((with_reducible refine' s_callD ?ee_ ?ff_ ?_); (case ee_ => rfl); (case ff_ => rfl))
  | ((with_reducible refine' x_back ?ll_ ?ee_ ?_); (case ll_ => rfl); (case ee_ => rfl))
  | ((with_reducible refine' x_back1 ?ee_ ?_); (case ee_ => rfl))
  | with_reducible refine s_gaN ?_
  | with_reducible refine s_gaV ?_
  | ((with_reducible refine' s_gaR ?ee_ ?_); (case ee_ => rfl))
  | with_reducible refine s_meth ?_
  | with_reducible refine s_meth0 ?_
  | with_reducible refine s_methK ?_
  | with_reducible refine s_makeK ?_
  | ((with_reducible refine' x_frzsK ?ee_ ?ll_ ?_); (case ee_ => rfl); (case ll_ => rfl))
  | with_reducible refine s_prop ?_
  | with_reducible refine s_make ?_
  | with_reducible refine s_own2 ?_
  | with_reducible refine s_eqX ?_
  | with_reducible refine s_neX ?_
  | with_reducible refine s_rev ?_
  | with_reducible refine x_nb ?_
  | ((with_reducible refine' x_rev ?ee_ ?ff_ ?_); (case ee_ => rfl); (case ff_ => rfl))
  | with_reducible refine s_lenO ?_
  | ((with_reducible refine' s_mut ?ee_ ?_); (case ee_ => rfl))
  | ((with_reducible refine' x_mut ?ee_ ?ff_ ?_); (case ee_ => rfl); (case ff_ => rfl))
  | ((with_reducible refine' s_mut0 ?ee_ ?_); (case ee_ => rfl))
  | with_reducible refine m_clr ?_
  | with_reducible refine m_rev ?_
  | with_reducible refine s_dget ?_
  | with_reducible refine s_dget1 ?_
  | with_reducible refine s_dget2 ?_
  | ((with_reducible refine' x_isT ?ee_ ?_); (case ee_ => rfl))
  | ((with_reducible refine' x_isK ?ee_ ?_); (case ee_ => rfl))
  | ((with_reducible refine' x_get2 ?ee_ ?ff_ ?gg_ ?_); (case ee_ => rfl); (case ff_ => rfl); (case gg_ => rfl))
  | with_reducible refine s_din ?_
  | with_reducible refine s_dnin ?_
  | ((with_reducible refine' s_lookT ?ee_ ?_); (case ee_ => rfl))
  | ((with_reducible refine' s_lookK ?ee_ ?_); (case ee_ => rfl))
  | with_reducible refine s_seq ?_
  | with_reducible refine s_set ?_
  | with_reducible refine s_ret ?_
  | with_reducible refine s_retN ?_
  | with_reducible refine s_if ?_
  | with_reducible refine s_next ?_
  | with_reducible refine s_drop ?_
  | with_reducible refine s_brk ?_
  | with_reducible refine s_cnt ?_
  | with_reducible refine s_asg ?_
  | with_reducible refine s_raise ?_
  | with_reducible refine s_setIx ?_
  | ((with_reducible refine' s_gN ?ee_ ?_); (case ee_ => rfl))
  | with_reducible refine s_gNl ?_
  | with_reducible refine s_gCn ?_
  | ((with_reducible refine' s_gT ?ee_ ?_); (case ee_ => rfl))
  | ((with_reducible refine' s_gL ?ee_ ?_); (case ee_ => rfl))
  | with_reducible refine s_for ?_
  | with_reducible refine s_wSeq ?_
  | ((with_reducible refine' x_items ?ee_ ?ff_ ?_); (case ee_ => rfl); (case ff_ => rfl))
  | with_reducible refine s_rng1 ?_
  | ((with_reducible refine' x_rng1 ?ee_ ?aa_ ?bb_ ?_); (case ee_ => rfl); (case aa_ => omega); (case bb_ => omega))
  | with_reducible refine s_rng2 ?_
  | ((with_reducible refine' x_rng2 ?ee_ ?aa_ ?_); (case ee_ => rfl); (case aa_ => exact ⟨by omega, by omega, by omega, by omega⟩))
  | with_reducible refine s_enum ?_
  | ((with_reducible refine' x_enum ?ee_ ?_); (case ee_ => rfl))
  | with_reducible refine s_lc ?_
  | with_reducible refine s_lcG ?_
  | ((with_reducible refine' s_lcV ?ee_ ?ff_ ?_); (case ee_ => rfl); (case ff_ => rfl))
  | ((with_reducible refine' s_forV ?ee_ ?_); (case ee_ => rfl))
  | with_reducible refine isi_bl_bool ?_
  | with_reducible refine isi_bl_int ?_
  | with_reducible refine isi_bl_str ?_
  | with_reducible refine isi_bl_list ?_
  | with_reducible refine isi_bl_tuple ?_
  | with_reducible refine isi_int_bool ?_
  | with_reducible refine isi_int_int ?_
  | with_reducible refine isi_int_str ?_
  | with_reducible refine isi_int_list ?_
  | with_reducible refine isi_int_tuple ?_
  | with_reducible refine isi_str_bool ?_
  | with_reducible refine isi_str_int ?_
  | with_reducible refine isi_str_str ?_
  | with_reducible refine isi_str_list ?_
  | with_reducible refine isi_str_tuple ?_
  | with_reducible refine isi_lst_bool ?_
  | with_reducible refine isi_lst_int ?_
  | with_reducible refine isi_lst_str ?_
  | with_reducible refine isi_lst_list ?_
  | with_reducible refine isi_lst_tuple ?_
  | with_reducible refine isi_tup_bool ?_
  | with_reducible refine isi_tup_int ?_
  | with_reducible refine isi_tup_str ?_
  | with_reducible refine isi_tup_list ?_
  | with_reducible refine isi_tup_tuple ?_
  | with_reducible refine isi_non_bool ?_
  | with_reducible refine isi_non_int ?_
  | with_reducible refine isi_non_str ?_
  | with_reducible refine isi_non_list ?_
  | with_reducible refine isi_non_tuple ?_
  | ((with_reducible refine' o_rep1 ?aa_ ?_); (case aa_ => exact ⟨by omega, by omega⟩))
  | ((with_reducible refine' o_eqIs ?aa_ ?bb_ ?_); (case aa_ => first | omega | (simp only [List.length_map, List.length_range, List.length_replicate]; omega)); (case bb_ => first | omega | (simp only [List.length_map, List.length_range, List.length_replicate]; omega)))
  | with_reducible refine o_intB ?_
  | ((with_reducible refine' o_neIs ?aa_ ?bb_ ?_); (case aa_ => first | omega | (simp only [List.length_map, List.length_range, List.length_replicate]; omega)); (case bb_ => first | omega | (simp only [List.length_map, List.length_range, List.length_replicate]; omega)))
  | with_reducible refine s_par ?_
  | ((with_reducible refine' x_par ?ee_ ?ff_ ?gg_ ?_); (case ee_ => rfl); (case ff_ => rfl); (case gg_ => rfl))
  | with_reducible refine s_rng1L ?_
  | ((with_reducible refine' x_rng1L ?ee_ ?_); (case ee_ => rfl))
  | with_reducible refine s_rng2L ?_
  | ((with_reducible refine' x_rng2L ?ee_ ?_); (case ee_ => rfl))
  | with_reducible refine s_fset ?_
  | ((with_reducible refine' x_fset ?ee_ ?ff_ ?gg_ ?_); (case ee_ => rfl); (case ff_ => rfl); (case gg_ => rfl))
  | with_reducible refine s_tryG ?_
  | ((with_reducible refine' s_xv ?ee_ ?ff_ ?gg_ ?_); (case ee_ => rfl); (case ff_ => assumption); (case gg_ => assumption))
  | ((with_reducible refine' s_xis ?ee_ ?ff_ ?_); (case ee_ => rfl); (case ff_ => assumption))
  | ((with_reducible refine' x_xis ?ee_ ?ff_ ?_); (case ee_ => rfl); (case ff_ => assumption))
  | ((with_reducible refine' x_clear ?ee_ ?_); (case ee_ => rfl))
  | with_reducible refine s_yes ?_
  | ((with_reducible refine' s_end ?ee_ ?bb_ ?_); (case ee_ => rfl); (case bb_ => walk_at "bk"))
  | ((with_reducible refine' x_pxT ?ee_ ?_); (case ee_ => assumption))
  | with_reducible refine x_got rfl ?_
  | with_reducible refine x_in0 ?_
  | with_reducible refine x_inS ?_
  | ((with_reducible refine' s_gVal ?ee_ ?_); (case ee_ => rfl))
  | ((with_reducible refine' s_gTag ?ee_ ?_); (case ee_ => rfl))
  | ((with_reducible refine' x_px ?bb_ ?_); (case bb_ => walk_at "bk"))
  | ((with_reducible refine' s_endN ?bb_ ?_); (case bb_ => walk_at "bk"))
  | with_reducible refine iteT ?_
  | with_reducible refine iteF ?_
  | with_reducible refine r_iteNf ?_
  | with_reducible refine r_iteNt ?_)
local macro_rules | `(tactic| walk_at "ds") => `(tactic| (repeat' (walk_at "ds1")))
set_option hygiene false in
local macro_rules | `(tactic| walk_at "dx") => `(tactic| (repeat' (first | walk_at "ds1" | with_reducible refine (fun (a : Addr) => ?_ : ∀ _ : Addr, _) | with_reducible refine ite_d (fun c => ?_) (fun c => ?_) | with_reducible refine ite_nd (fun c => ?_) (fun c => ?_) | with_reducible refine ite_nb (fun c => ?_) (fun c => ?_) | with_reducible refine ite_b (fun c => ?_) (fun c => ?_))))
set_option hygiene false in
local macro_rules | `(tactic| walk_at "dy") => `(tactic| (repeat' (first | walk_at "ds1" | with_reducible refine (fun (a : Addr) => ?_ : ∀ _ : Addr, _))))
/-! ### courses compared -/
def conEqC (K : PySem.W.Frag) (A : Ad) : Con := fun es P _ => ∃ (s : Int) (t1 : List Int) (p : Nat) (r : Int) (d : D), es = [.imm (crsD A.C_Course s t1 p r), .imm d] ∧
  ((∃ (s2 : Int) (t2 : List Int) (p2 : Nat) (r2 : Int), d = crsD A.C_Course s2 t2 p2 r2 ∧ t1.length ≤ 1000 ∧ t2.length ≤ 1000 ∧ P (.imm (.bl (decide (s = s2 ∧ t1 = t2 ∧ p = p2 ∧ r = r2)))) es) ∨
   (∃ t, (∀ C fs, d ≠ .obj C fs) ∧ tyOfD d = some t ∧ PySem.W.kitOne K t (.ref A.C_Course) = some false ∧ P (.imm (.bl false)) es))
theorem eqD_crs {s s2 r r2 : Int} {t1 t2 : List Int} {p p2 : Nat} : eqD (.tup [.int s, intsD t1, .int p, .int r]) (.tup [.int s2, intsD t2, .int p2, .int r2]) = decide (s = s2 ∧ t1 = t2 ∧ p = p2 ∧ r = r2) := by
  show (decide (s = s2) && (PyData.eqvAll (toPys (t1.map D.int)) (toPys (t2.map D.int)) && (decide ((p : Int) = p2) && (decide (r = r2) && true)))) = _
  rw [eqvAll_ints]
  by_cases h1 : s = s2 <;> by_cases h2 : t1 = t2 <;> by_cases h3 : p = p2 <;> by_cases h4 : r = r2 <;> simp [h1, h2, h3, h4] <;> omega
theorem crsOkP {s r : Int} {t1 : List Int} {p : Nat} (h : t1.length ≤ 1000) : okP (.tup [.int s, intsD t1, .int p, .int r]) := by
  show okD 40 (.tuple [.int s, .list (toPys (t1.map D.int)), .int p, .int r]) = true
  have z := intsOk 38 (ns := t1) (by omega)
  have z' : okD 39 (.list (toPys (t1.map D.int))) = true := z
  rw [okD, Bool.and_eq_true]
  refine ⟨rfl, ?_⟩
  rw [okDs, okDs, okDs, okDs, okDs, z']
  rfl
section
variable {P : Program} {w : World} {K : PySem.W.Frag} {mg : Str → Option Value} {base : Heap} {A : Ad}
theorem isi_crs (T : Txt K mg A) {fs : List (Str × D)} {R : Ent → Prop} (k : R (.imm (.bl true))) : cIsi K [.obj A.C_Course fs, .cls A.C_Course] R :=
  ⟨_, _, rfl, fun C fs e => by cases e; exact ⟨T.cl_Course, T.i1_Course, T.i2_Course, T.i3_Course, T.i4_Course⟩, .ref A.C_Course, .ref A.C_Course, true, rfl, rfl, kit_self, k⟩
theorem okd_Course___eq__ (T : Txt K mg A) : FnOk P w K mg base (L2.CX P w) (0 + 1) A.f_Course___eq__ A.d_Course___eq__ P_Course___eq__ (spD K (conEqC K A)) := by
  refine okD_fn T.F_Course___eq__ sc_Course___eq__ (fun es P PX h => ?_) (fun cdv A' outer s H I E es R PX hr fo hc => ?_)
  · obtain ⟨s, t1, p, r, d, rfl, _⟩ := h
    rfl
  obtain ⟨s, t1, p, r, d, rfl, h⟩ := hc
  have hu := hu_of hr
  refine ⟨_, (dss_cons (ds_if (dt_not (dt_val (de_blt dcr_isi (by rfl) T.n_isinstance (by decide +kernel) (da_cons (dv 1) (da_cons (de_glob (v := .ref A.C_Course) rfl T.g_Course rfl (fun _ => .cls _)) da_nil)))))
(dss_one (ds_ret de_bl))
dss_nil)
(dss_cons (ds_set (i := 2) sc_Course___eq__.nd rfl (Or.inl rfl) (de_tup (da_cons (de_fld (dv 0) T.cl_Course T.na_Course_start) (da_cons (de_fld (dv 0) T.cl_Course T.na_Course_told) (da_cons (de_fld (dv 0) T.cl_Course T.na_Course_period) (da_cons (de_fld (dv 0) T.cl_Course T.na_Course_rise) da_nil))))))
(dss_one (ds_ret (de_cmp (dor_eq hr.units) (dv 2) (de_tup (da_cons (de_fld (dv 1) T.cl_Course T.na_Course_start) (da_cons (de_fld (dv 1) T.cl_Course T.na_Course_told) (da_cons (de_fld (dv 1) T.cl_Course T.na_Course_period) (da_cons (de_fld (dv 1) T.cl_Course T.na_Course_rise) da_nil))))) (nomark _)))))), ?_⟩
  walk_at "dy"
  rcases h with ⟨s2, t2, p2, r2, rfl, l1, l2, hP⟩ | ⟨t, hn, ht, hk, hP⟩
  · refine isi_crs T ?_
    walk_at "dx"
    refine ⟨crsOkP l1, crsOkP l2, ?_⟩
    rw [eqD_crs]
    walk_at "dx"
    exact hP
  · refine ⟨d, .cls A.C_Course, rfl, fun C fs e => absurd e (hn C fs), t, .ref A.C_Course, false, ht, rfl, hk, ?_⟩
    walk_at "dx"
    exact hP
theorem nofst_crs (T : Txt K mg A) {fs : List (Str × D)} : NoFst K A.C_Course (.obj A.C_Course fs) := ⟨fun C fs e => by cases e; exact ⟨T.cl_Course, T.i1_Course, T.i2_Course, T.i3_Course, T.i4_Course⟩, _, rfl, by unfold PySem.W.notFirst; simp⟩
end

end

section
local macro_rules | `(tactic| walk_at "al") => `(tactic| first
  | omega
  | exact Or.inl (Or.inl ⟨by omega, by omega⟩)
  | exact Or.inl (Or.inr ⟨by omega, by omega⟩)
  | exact ⟨by omega, Or.inl (by omega)⟩
  | exact ⟨by omega, by omega, by omega, by omega⟩
  | exact ⟨by decide, by decide, by decide⟩)
local macro_rules | `(tactic| walk_at "bk") => `(tactic| repeat (first | exact BackE.nil | apply BackE.imm | apply BackE.own | apply BackE.hand))
local macro_rules | `(tactic| walk_at "ds1") => `(tactic| first
  | ((with_reducible refine' s_vi ?ee_ ?_); (case ee_ => rfl))
  | ((with_reducible refine' s_vs ?ee_ ?_); (case ee_ => rfl))
  | with_reducible refine s_c ?_
  | with_reducible refine s_aN ?_
  | with_reducible refine s_aC ?_
  | with_reducible refine s_op ?_
  | ((with_reducible refine' x_val2 ?ee_ ?ff_ ?_); (case ee_ => rfl); (case ff_ => rfl))
  | ((with_reducible refine' x_bl ?ee_ ?_); (case ee_ => rfl))
  | ((with_reducible refine' x_int ?ee_ ?_); (case ee_ => rfl))
  | ((with_reducible refine' x_val ?ee_ ?_); (case ee_ => rfl))
  | ((with_reducible refine' x_vals ?ee_ ?_); (case ee_ => rfl))
  | ((with_reducible refine' x_frzs ?ee_ ?ll_ ?_); (case ee_ => rfl); (case ll_ => rfl))
  | ((with_reducible refine' x_frzO ?ee_ ?_); (case ee_ => rfl))
  | ((with_reducible refine' x_frz2 ?ee_ ?ff_ ?_); (case ee_ => rfl); (case ff_ => rfl))
  | ((with_reducible refine' x_frz ?ee_ ?_); (case ee_ => rfl))
  | ((with_reducible refine' x_asg ?ee_ ?_); (case ee_ => rfl))
  | with_reducible refine o_addI ?_
  | with_reducible refine o_subI ?_
  | ((with_reducible refine' o_mulI ?cc_ ?_); (case cc_ => walk_at "al"))
  | ((with_reducible refine' o_divI ?cc_ ?_); (case cc_ => walk_at "al"))
  | ((with_reducible refine' o_modI ?cc_ ?_); (case cc_ => walk_at "al"))
  | ((with_reducible refine' o_powI ?cc_ ?_); (case cc_ => walk_at "al"))
  | with_reducible refine o_andI ?_
  | with_reducible refine o_ltI ?_
  | with_reducible refine o_leI ?_
  | with_reducible refine o_gtI ?_
  | with_reducible refine o_geI ?_
  | with_reducible refine o_eqI ?_
  | with_reducible refine o_eqS ?_
  | with_reducible refine o_eqP ?_
  | with_reducible refine o_neI ?_
  | with_reducible refine o_neS ?_
  | with_reducible refine o_isN_non ?_
  | with_reducible refine o_notN_non ?_
  | with_reducible refine o_isN_bl ?_
  | with_reducible refine o_notN_bl ?_
  | with_reducible refine o_isN_int ?_
  | with_reducible refine o_notN_int ?_
  | with_reducible refine o_isN_str ?_
  | with_reducible refine o_notN_str ?_
  | with_reducible refine o_isN_lst ?_
  | with_reducible refine o_notN_lst ?_
  | with_reducible refine o_isN_tup ?_
  | with_reducible refine o_notN_tup ?_
  | with_reducible refine o_isN_obj ?_
  | with_reducible refine o_notN_obj ?_
  | with_reducible refine o_eqB ?_
  | with_reducible refine o_isN' ?_
  | with_reducible refine o_isB' ?_
  | with_reducible refine o_notN' ?_
  | ((with_reducible refine' o_ixT ?ee_ ?ff_ ?_); (case ee_ => first | rfl | assumption); (case ff_ => first | rfl | assumption))
  | ((with_reducible refine' ixI ?aa_ ?bb_ ?_); (case aa_ => omega); (case bb_ => omega))
  | ((with_reducible refine' o_ixL ?ee_ ?ff_ ?_); (case ee_ => first | rfl | assumption); (case ff_ => first | rfl | assumption))
  | with_reducible refine o_slF ?_
  | with_reducible refine o_slL ?_
  | with_reducible refine o_slT ?_
  | with_reducible refine s_dnT ?_
  | with_reducible refine s_dnK ?_
  | with_reducible refine o_neP ?_
  | with_reducible refine o_neC ?_
  | ((with_reducible refine' o_fld ?ee_ ?_); (case ee_ => rfl))
  | with_reducible refine o_lenI ?_
  | with_reducible refine o_lenL ?_
  | with_reducible refine o_lenT ?_
  | with_reducible refine o_lenF ?_
  | with_reducible refine o_lenD ?_
  | with_reducible refine o_int ?_
  | with_reducible refine o_abs ?_
  | with_reducible refine o_max ?_
  | with_reducible refine o_min ?_
  | with_reducible refine o_list ?_
  | ((with_reducible refine' o_inT ?ee_ ?_); (case ee_ => rfl))
  | ((with_reducible refine' o_ninT ?ee_ ?_); (case ee_ => rfl))
  | with_reducible refine o_neg ?_
  | ((with_reducible refine' o_inF ?ee_ ?_); (case ee_ => rfl))
  | ((with_reducible refine' o_ninF ?ee_ ?_); (case ee_ => rfl))
  | with_reducible refine s_tup ?_
  | with_reducible refine s_lst ?_
  | with_reducible refine s_un ?_
  | with_reducible refine s_cl ?_
  | with_reducible refine s_test ?_
  | with_reducible refine s_and ?_
  | with_reducible refine s_or ?_
  | with_reducible refine s_not ?_
  | with_reducible refine s_andV ?_
  | with_reducible refine s_orV ?_
  | with_reducible refine s_notV ?_
  | with_reducible refine s_ifV ?_
  | with_reducible refine s_chain ?_
  | with_reducible refine x_ib ?_
  | with_reducible refine s_pN ?_
  | with_reducible refine s_pS ?_
  | with_reducible refine s_sl ?_
  | with_reducible refine s_sameL ?_
  | with_reducible refine o_isNB ?_
  | with_reducible refine s_fz ?_
  | with_reducible refine o_ixH ?_
  | ((with_reducible refine' x_noa ?ee_ ?_); (case ee_ => rfl))
  | ((with_reducible refine' x_lenN ?ee_ ?ff_ ?_); (case ee_ => omega); (case ff_ => omega))
  | ((with_reducible refine' x_le1000 ?ee_ ?_); (case ee_ => rfl))
  | with_reducible refine s_call ?_
  | ((with_reducible refine' x_con ?ee_ ?ff_ ?_); (case ee_ => rfl); (case ff_ => rfl))
  | ((with_reducible refine' s_callD ?ee_ ?ff_ ?_); (case ee_ => rfl); (case ff_ => rfl))
  | ((with_reducible refine' x_back ?ll_ ?ee_ ?_); (case ll_ => rfl); (case ee_ => rfl))
  | ((with_reducible refine' x_back1 ?ee_ ?_); (case ee_ => rfl))
  | with_reducible refine s_gaN ?_
  | with_reducible refine s_gaV ?_
  | ((with_reducible refine' s_gaR ?ee_ ?_); (case ee_ => rfl))
  | with_reducible refine s_meth ?_
  | with_reducible refine s_meth0 ?_
  | with_reducible refine s_methK ?_
  | with_reducible refine s_makeK ?_
  | ((with_reducible refine' x_frzsK ?ee_ ?ll_ ?_); (case ee_ => rfl); (case ll_ => rfl))
  | with_reducible refine s_prop ?_
  | with_reducible refine s_make ?_
  | with_reducible refine s_own2 ?_
  | with_reducible refine s_eqX ?_
  | with_reducible refine s_neX ?_
  | with_reducible refine s_rev ?_
  | with_reducible refine x_nb ?_
  | ((with_reducible refine' x_rev ?ee_ ?ff_ ?_); (case ee_ => rfl); (case ff_ => rfl))
  | with_reducible refine s_lenO ?_
  | ((with_reducible refine' s_mut ?ee_ ?_); (case ee_ => rfl))
  | ((with_reducible refine' x_mut ?ee_ ?ff_ ?_); (case ee_ => rfl); (case ff_ => rfl))
  | ((with_reducible refine' s_mut0 ?ee_ ?_); (case ee_ => rfl))
  | with_reducible refine m_clr ?_
  | with_reducible refine m_rev ?_
  | with_reducible refine s_dget ?_
  | with_reducible refine s_dget1 ?_
  | with_reducible refine s_dget2 ?_
  | ((with_reducible refine' x_isT ?ee_ ?_); (case ee_ => rfl))
  | ((with_reducible refine' x_isK ?ee_ ?_); (case ee_ => rfl))
  | ((with_reducible refine' x_get2 ?ee_ ?ff_ ?gg_ ?_); (case ee_ => rfl); (case ff_ => rfl); (case gg_ => rfl))
  | with_reducible refine s_din ?_
  | with_reducible refine s_dnin ?_
  | ((with_reducible refine' s_lookT ?ee_ ?_); (case ee_ => rfl))
  | ((with_reducible refine' s_lookK ?ee_ ?_); (case ee_ => rfl))
  | with_reducible refine s_seq ?_
  | with_reducible refine s_set ?_
  | with_reducible refine s_ret ?_
  | with_reducible refine s_retN ?_
  | with_reducible refine s_if ?_
  | with_reducible refine s_next ?_
  | with_reducible refine s_drop ?_
  | with_reducible refine s_brk ?_
  | with_reducible refine s_cnt ?_
  | with_reducible refine s_asg ?_
  | with_reducible refine s_raise ?_
  | with_reducible refine s_setIx ?_
  | ((with_reducible refine' s_gN ?ee_ ?_); (case ee_ => rfl))
  | with_reducible refine s_gNl ?_
  | with_reducible refine s_gCn ?_
  | ((with_reducible refine' s_gT ?ee_ ?_); (case ee_ => rfl))
  | ((with_reducible refine' s_gL ?ee_ ?_); (case ee_ => rfl))
  | with_reducible refine s_for ?_
  | with_reducible refine s_wSeq ?_
  | ((with_reducible refine' x_items ?ee_ ?ff_ ?_); (case ee_ => rfl); (case ff_ => rfl))
  | with_reducible refine s_rng1 ?_
  | ((with_reducible refine' x_rng1 ?ee_ ?aa_ ?bb_ ?_); (case ee_ => rfl); (case aa_ => omega); (case bb_ => omega))
  | with_reducible refine s_rng2 ?_
  | ((with_reducible refine' x_rng2 ?ee_ ?aa_ ?_); (case ee_ => rfl); (case aa_ => exact ⟨by omega, by omega, by omega, by omega⟩))
  | with_reducible refine s_enum ?_
  | ((with_reducible refine' x_enum ?ee_ ?_); (case ee_ => rfl))
  | with_reducible refine s_lc ?_
  | with_reducible refine s_lcG ?_
  | ((with_reducible refine' s_lcV ?ee_ ?ff_ ?_); (case ee_ => rfl); (case ff_ => rfl))
  | ((with_reducible refine' s_forV ?ee_ ?_); (case ee_ => rfl))
  | with_reducible refine isi_bl_bool ?_
  | with_reducible refine isi_bl_int ?_
  | with_reducible refine isi_bl_str ?_
  | with_reducible refine isi_bl_list ?_
  | with_reducible refine isi_bl_tuple ?_
  | with_reducible refine isi_int_bool ?_
  | with_reducible refine isi_int_int ?_
  | with_reducible refine isi_int_str ?_
  | with_reducible refine isi_int_list ?_
  | with_reducible refine isi_int_tuple ?_
  | with_reducible refine isi_str_bool ?_
  | with_reducible refine isi_str_int ?_
  | with_reducible refine isi_str_str ?_
  | with_reducible refine isi_str_list ?_
  | with_reducible refine isi_str_tuple ?_
  | with_reducible refine isi_lst_bool ?_
  | with_reducible refine isi_lst_int ?_
  | with_reducible refine isi_lst_str ?_
  | with_reducible refine isi_lst_list ?_
  | with_reducible refine isi_lst_tuple ?_
  | with_reducible refine isi_tup_bool ?_
  | with_reducible refine isi_tup_int ?_
  | with_reducible refine isi_tup_str ?_
  | with_reducible refine isi_tup_list ?_
  | with_reducible refine isi_tup_tuple ?_
  | with_reducible refine isi_non_bool ?_
  | with_reducible refine isi_non_int ?_
  | with_reducible refine isi_non_str ?_
  | with_reducible refine isi_non_list ?_
  | with_reducible refine isi_non_tuple ?_
  | ((with_reducible refine' o_rep1 ?aa_ ?_); (case aa_ => exact ⟨by omega, by omega⟩))
  | ((with_reducible refine' o_eqIs ?aa_ ?bb_ ?_); (case aa_ => first | omega | (simp only [List.length_map, List.length_range, List.length_replicate]; omega)); (case bb_ => first | omega | (simp only [List.length_map, List.length_range, List.length_replicate]; omega)))
  | with_reducible refine o_intB ?_
  | ((with_reducible refine' o_neIs ?aa_ ?bb_ ?_); (case aa_ => first | omega | (simp only [List.length_map, List.length_range, List.length_replicate]; omega)); (case bb_ => first | omega | (simp only [List.length_map, List.length_range, List.length_replicate]; omega)))
  | with_reducible refine s_par ?_
  | ((with_reducible refine' x_par ?ee_ ?ff_ ?gg_ ?_); (case ee_ => rfl); (case ff_ => rfl); (case gg_ => rfl))
  | with_reducible refine s_rng1L ?_
  | ((with_reducible refine' x_rng1L ?ee_ ?_); (case ee_ => rfl))
  | with_reducible refine s_rng2L ?_
  | ((with_reducible refine' x_rng2L ?ee_ ?_); (case ee_ => rfl))
  | with_reducible refine s_fset ?_
  | ((with_reducible refine' x_fset ?ee_ ?ff_ ?gg_ ?_); (case ee_ => rfl); (case ff_ => rfl); (case gg_ => rfl))
  | with_reducible refine s_tryG ?_
  | ((with_reducible refine' s_xv ?ee_ ?ff_ ?gg_ ?_); (case ee_ => rfl); (case ff_ => assumption); (case gg_ => assumption))
  | ((with_reducible refine' s_xis ?ee_ ?ff_ ?_); (case ee_ => rfl); (case ff_ => assumption))
  | ((with_reducible refine' x_xis ?ee_ ?ff_ ?_); (case ee_ => rfl); (case ff_ => assumption))
  | ((with_reducible refine' x_clear ?ee_ ?_); (case ee_ => rfl))
  | with_reducible refine s_yes ?_
  | ((with_reducible refine' s_end ?ee_ ?bb_ ?_); (case ee_ => rfl); (case bb_ => walk_at "bk"))
  | ((with_reducible refine' x_pxT ?ee_ ?_); (case ee_ => assumption))
  | with_reducible refine x_got rfl ?_
  | with_reducible refine x_in0 ?_
  | with_reducible refine x_inS ?_
  | ((with_reducible refine' s_gVal ?ee_ ?_); (case ee_ => rfl))
  | ((with_reducible refine' s_gTag ?ee_ ?_); (case ee_ => rfl))
  | ((with_reducible refine' x_px ?bb_ ?_); (case bb_ => walk_at "bk"))
  | ((with_reducible refine' s_endN ?bb_ ?_); (case bb_ => walk_at "bk"))
  | with_reducible refine iteT ?_
  | with_reducible refine iteF ?_
  | with_reducible refine r_iteNf ?_
  | with_reducible refine r_iteNt ?_)
local macro_rules | `(tactic| walk_at "ds") => `(tactic| (repeat' (walk_at "ds1")))
set_option hygiene false in
local macro_rules | `(tactic| walk_at "dx") => `(tactic| (repeat' (first | walk_at "ds1" | with_reducible refine (fun (a : Addr) => ?_ : ∀ _ : Addr, _) | with_reducible refine ite_d (fun c => ?_) (fun c => ?_) | with_reducible refine ite_nd (fun c => ?_) (fun c => ?_) | with_reducible refine ite_nb (fun c => ?_) (fun c => ?_) | with_reducible refine ite_b (fun c => ?_) (fun c => ?_))))
set_option hygiene false in
local macro_rules | `(tactic| walk_at "dy") => `(tactic| (repeat' (first | walk_at "ds1" | with_reducible refine (fun (a : Addr) => ?_ : ∀ _ : Addr, _))))
/-! ### greatest divisors; two courses at once -/
def conGcd : Con := fun es P _ => ∃ (a b : Nat), es = [.int a, .int b] ∧ 1 ≤ a ∧ a ≤ 1000000 ∧ 1 ≤ b ∧ b ≤ 1000000 ∧ P (.int (Nat.gcd a b : Nat)) es
/-- two that agree long enough agree -/
theorem agree {v w : Nat → Int} {a b N : Nat} {r s : Int} (h1 : QP v a r N) (h2 : QP w b s N) (h : ∀ k, N ≤ k → k < N + a + b → v k = w k) (ha : 1 ≤ a) (hb : 1 ≤ b) : ∀ k, N ≤ k → v k = w k := fun k => by
  induction k using Nat.strongRecOn with
  | ind k ih =>
    intro hk
    by_cases c : k < N + a + b
    · exact h k hk c
    · obtain ⟨j, rfl⟩ : ∃ j, k = j + a + b := ⟨k - a - b, by omega⟩
      have i1 := ih (j + a) (by omega) (by omega)
      have i2 := ih (j + b) (by omega) (by omega)
      have i3 := ih j (by omega) (by omega)
      have q1 := h1 j (by omega)
      have q2 := h1 (j + b) (by omega)
      have q3 := h2 j (by omega)
      have q4 := h2 (j + a) (by omega)
      rw [show j + b + a = j + a + b by omega] at q2
      omega
theorem lcm_facts {a b : Nat} (ha : 1 ≤ a) (hb : 1 ≤ b) : ∃ m n, a * b / Nat.gcd a b = a * m ∧ a * b / Nat.gcd a b = b * n ∧ 1 ≤ m ∧ 1 ≤ n ∧ a * m / a = m ∧ b * n / b = n ∧ a ≤ a * m ∧ b ≤ b * n := by
  have g1 : Nat.gcd a b ∣ a := Nat.gcd_dvd_left a b
  have g2 : Nat.gcd a b ∣ b := Nat.gcd_dvd_right a b
  have gp : 0 < Nat.gcd a b := Nat.gcd_pos_of_pos_left _ ha
  obtain ⟨x, hx⟩ := g1
  obtain ⟨y, hy⟩ := g2
  have e1 : a * b / Nat.gcd a b = a * y := by
    have : a * b = Nat.gcd a b * (a * y) := by
      conv => lhs; rw [hy]
      rw [Nat.mul_left_comm]
    rw [this, Nat.mul_div_cancel_left _ gp]
  have e2 : a * b / Nat.gcd a b = b * x := by
    have : a * b = Nat.gcd a b * (b * x) := by
      conv => lhs; rw [hx]
      rw [Nat.mul_assoc, Nat.mul_comm x b]
    rw [this, Nat.mul_div_cancel_left _ gp]
  have py : 1 ≤ y := by
    cases y with
    | zero => rw [Nat.mul_zero] at hy; omega
    | succ y => omega
  have px : 1 ≤ x := by
    cases x with
    | zero => rw [Nat.mul_zero] at hx; omega
    | succ x => omega
  exact ⟨y, x, e1, e2, py, px, Nat.mul_div_cancel_left _ ha, Nat.mul_div_cancel_left _ hb, Nat.le_mul_of_pos_right _ py, Nat.le_mul_of_pos_right _ px⟩
section
variable {P : Program} {w : World} {K : PySem.W.Frag} {mg : Str → Option Value} {base : Heap} {A : Ad}
theorem okd_greatest_divisor (T : Txt K mg A) : FnOk P w K mg base (L2.CX P w) (0 + 1) A.f_greatest_divisor A.d_greatest_divisor P_greatest_divisor (spD K conGcd) := by
  refine okD_fn T.F_greatest_divisor sc_greatest_divisor (fun es P PX h => ?_) (fun cdv A' outer s H I E es R PX hr fo hc => ?_)
  · obtain ⟨a, b, rfl, _⟩ := h
    rfl
  obtain ⟨a, b, rfl, a1, a2, b1, b2, hP⟩ := hc
  have hu := hu_of hr
  refine ⟨_, (dss_cons (ds_while (passes_of rfl) (dt_cmp dor_gt (dv 1) de_int (nomark _))
(dss_one (ds_par (i := 0) (j := 1) rfl sc_greatest_divisor.nd rfl rfl (by decide) (by rfl) (by rfl) (da_cons (dv 1) (da_cons (de_op dor_mod (dv 0) (dv 1)) da_nil)))))
(dss_one (ds_ret (dv 0)))), ?_⟩
  walk_at "dy"
  refine ⟨fun n e => ∃ x : Nat, e = [iI x, iI n] ∧ Nat.gcd x n = Nat.gcd a b ∧ x ≤ 1000000 ∧ n ≤ 1000000, ⟨b, a, rfl, rfl, a2, b2⟩, ?_⟩
  rintro n e ⟨x, rfl, hg, hx, hn⟩
  walk_at "dx"
  · have e0 : ((x : Int) % (n : Int)) = ((x % n : Nat) : Int) := by push_cast; rfl
    rw [e0]
    refine ⟨x % n, Nat.mod_lt _ (by omega), n, rfl, ?_, hn, Nat.le_trans (Nat.mod_le _ _) hx⟩
    rw [← hg, Nat.gcd_comm x n, Nat.gcd_rec n x, Nat.gcd_comm]
  · have : n = 0 := by omega
    subst this
    rw [Nat.gcd_zero_right] at hg
    rw [hg]
    exact hP
end

end

section
local macro_rules | `(tactic| walk_at "al") => `(tactic| first
  | omega
  | exact Or.inl (Or.inl ⟨by omega, by omega⟩)
  | exact Or.inl (Or.inr ⟨by omega, by omega⟩)
  | exact ⟨by omega, Or.inl (by omega)⟩
  | exact ⟨by omega, by omega, by omega, by omega⟩
  | exact ⟨by decide, by decide, by decide⟩)
local macro_rules | `(tactic| walk_at "bk") => `(tactic| repeat (first | exact BackE.nil | apply BackE.imm | apply BackE.own | apply BackE.hand))
local macro_rules | `(tactic| walk_at "ds1") => `(tactic| first
  | ((with_reducible refine' s_vi ?ee_ ?_); (case ee_ => rfl))
  | ((with_reducible refine' s_vs ?ee_ ?_); (case ee_ => rfl))
  | with_reducible refine s_c ?_
  | with_reducible refine s_aN ?_
  | with_reducible refine s_aC ?_
  | with_reducible refine s_op ?_
  | ((with_reducible refine' x_val2 ?ee_ ?ff_ ?_); (case ee_ => rfl); (case ff_ => rfl))
  | ((with_reducible refine' x_bl ?ee_ ?_); (case ee_ => rfl))
  | ((with_reducible refine' x_int ?ee_ ?_); (case ee_ => rfl))
  | ((with_reducible refine' x_val ?ee_ ?_); (case ee_ => rfl))
  | ((with_reducible refine' x_vals ?ee_ ?_); (case ee_ => rfl))
  | ((with_reducible refine' x_frzs ?ee_ ?ll_ ?_); (case ee_ => rfl); (case ll_ => rfl))
  | ((with_reducible refine' x_frzO ?ee_ ?_); (case ee_ => rfl))
  | ((with_reducible refine' x_frz2 ?ee_ ?ff_ ?_); (case ee_ => rfl); (case ff_ => rfl))
  | ((with_reducible refine' x_frz ?ee_ ?_); (case ee_ => rfl))
  | ((with_reducible refine' x_asg ?ee_ ?_); (case ee_ => rfl))
  | with_reducible refine o_addI ?_
  | with_reducible refine o_subI ?_
  | ((with_reducible refine' o_mulI ?cc_ ?_); (case cc_ => walk_at "al"))
  | ((with_reducible refine' o_divI ?cc_ ?_); (case cc_ => walk_at "al"))
  | ((with_reducible refine' o_modI ?cc_ ?_); (case cc_ => walk_at "al"))
  | ((with_reducible refine' o_powI ?cc_ ?_); (case cc_ => walk_at "al"))
  | with_reducible refine o_andI ?_
  | with_reducible refine o_ltI ?_
  | with_reducible refine o_leI ?_
  | with_reducible refine o_gtI ?_
  | with_reducible refine o_geI ?_
  | with_reducible refine o_eqI ?_
  | with_reducible refine o_eqS ?_
  | with_reducible refine o_eqP ?_
  | with_reducible refine o_neI ?_
  | with_reducible refine o_neS ?_
  | with_reducible refine o_isN_non ?_
  | with_reducible refine o_notN_non ?_
  | with_reducible refine o_isN_bl ?_
  | with_reducible refine o_notN_bl ?_
  | with_reducible refine o_isN_int ?_
  | with_reducible refine o_notN_int ?_
  | with_reducible refine o_isN_str ?_
  | with_reducible refine o_notN_str ?_
  | with_reducible refine o_isN_lst ?_
  | with_reducible refine o_notN_lst ?_
  | with_reducible refine o_isN_tup ?_
  | with_reducible refine o_notN_tup ?_
  | with_reducible refine o_isN_obj ?_
  | with_reducible refine o_notN_obj ?_
  | with_reducible refine o_eqB ?_
  | with_reducible refine o_isN' ?_
  | with_reducible refine o_isB' ?_
  | with_reducible refine o_notN' ?_
  | ((with_reducible refine' o_ixT ?ee_ ?ff_ ?_); (case ee_ => first | rfl | assumption); (case ff_ => first | rfl | assumption))
  | ((with_reducible refine' ixI ?aa_ ?bb_ ?_); (case aa_ => omega); (case bb_ => omega))
  | ((with_reducible refine' o_ixL ?ee_ ?ff_ ?_); (case ee_ => first | rfl | assumption); (case ff_ => first | rfl | assumption))
  | with_reducible refine o_slF ?_
  | with_reducible refine o_slL ?_
  | with_reducible refine o_slT ?_
  | with_reducible refine s_dnT ?_
  | with_reducible refine s_dnK ?_
  | with_reducible refine o_neP ?_
  | with_reducible refine o_neC ?_
  | ((with_reducible refine' o_fld ?ee_ ?_); (case ee_ => rfl))
  | with_reducible refine o_lenI ?_
  | with_reducible refine o_lenL ?_
  | with_reducible refine o_lenT ?_
  | with_reducible refine o_lenF ?_
  | with_reducible refine o_lenD ?_
  | with_reducible refine o_int ?_
  | with_reducible refine o_abs ?_
  | with_reducible refine o_max ?_
  | with_reducible refine o_min ?_
  | with_reducible refine o_list ?_
  | ((with_reducible refine' o_inT ?ee_ ?_); (case ee_ => rfl))
  | ((with_reducible refine' o_ninT ?ee_ ?_); (case ee_ => rfl))
  | with_reducible refine o_neg ?_
  | ((with_reducible refine' o_inF ?ee_ ?_); (case ee_ => rfl))
  | ((with_reducible refine' o_ninF ?ee_ ?_); (case ee_ => rfl))
  | with_reducible refine s_tup ?_
  | with_reducible refine s_lst ?_
  | with_reducible refine s_un ?_
  | with_reducible refine s_cl ?_
  | with_reducible refine s_test ?_
  | with_reducible refine s_and ?_
  | with_reducible refine s_or ?_
  | with_reducible refine s_not ?_
  | with_reducible refine s_andV ?_
  | with_reducible refine s_orV ?_
  | with_reducible refine s_notV ?_
  | with_reducible refine s_ifV ?_
  | with_reducible refine s_chain ?_
  | with_reducible refine x_ib ?_
  | with_reducible refine s_pN ?_
  | with_reducible refine s_pS ?_
  | with_reducible refine s_sl ?_
  | with_reducible refine s_sameL ?_
  | with_reducible refine o_isNB ?_
  | with_reducible refine s_fz ?_
  | with_reducible refine o_ixH ?_
  | ((with_reducible refine' x_noa ?ee_ ?_); (case ee_ => rfl))
  | ((with_reducible refine' x_lenN ?ee_ ?ff_ ?_); (case ee_ => omega); (case ff_ => omega))
  | ((with_reducible refine' x_le1000 ?ee_ ?_); (case ee_ => rfl))
  | with_reducible refine s_call ?_
  | ((with_reducible refine' x_con ?ee_ ?ff_ ?_); (case ee_ => rfl); (case ff_ => rfl))
  | ((with_reducible refine' s_callD ?ee_ ?ff_ ?_); (case ee_ => rfl); (case ff_ => rfl))
  | ((with_reducible refine' x_back ?ll_ ?ee_ ?_); (case ll_ => rfl); (case ee_ => rfl))
  | ((with_reducible refine' x_back1 ?ee_ ?_); (case ee_ => rfl))
  | with_reducible refine s_gaN ?_
  | with_reducible refine s_gaV ?_
  | ((with_reducible refine' s_gaR ?ee_ ?_); (case ee_ => rfl))
  | with_reducible refine s_meth ?_
  | with_reducible refine s_meth0 ?_
  | with_reducible refine s_methK ?_
  | with_reducible refine s_makeK ?_
  | ((with_reducible refine' x_frzsK ?ee_ ?ll_ ?_); (case ee_ => rfl); (case ll_ => rfl))
  | with_reducible refine s_prop ?_
  | with_reducible refine s_make ?_
  | with_reducible refine s_own2 ?_
  | with_reducible refine s_eqX ?_
  | with_reducible refine s_neX ?_
  | with_reducible refine s_rev ?_
  | with_reducible refine x_nb ?_
  | ((with_reducible refine' x_rev ?ee_ ?ff_ ?_); (case ee_ => rfl); (case ff_ => rfl))
  | with_reducible refine s_lenO ?_
  | ((with_reducible refine' s_mut ?ee_ ?_); (case ee_ => rfl))
  | ((with_reducible refine' x_mut ?ee_ ?ff_ ?_); (case ee_ => rfl); (case ff_ => rfl))
  | ((with_reducible refine' s_mut0 ?ee_ ?_); (case ee_ => rfl))
  | with_reducible refine m_clr ?_
  | with_reducible refine m_rev ?_
  | with_reducible refine s_dget ?_
  | with_reducible refine s_dget1 ?_
  | with_reducible refine s_dget2 ?_
  | ((with_reducible refine' x_isT ?ee_ ?_); (case ee_ => rfl))
  | ((with_reducible refine' x_isK ?ee_ ?_); (case ee_ => rfl))
  | ((with_reducible refine' x_get2 ?ee_ ?ff_ ?gg_ ?_); (case ee_ => rfl); (case ff_ => rfl); (case gg_ => rfl))
  | with_reducible refine s_din ?_
  | with_reducible refine s_dnin ?_
  | ((with_reducible refine' s_lookT ?ee_ ?_); (case ee_ => rfl))
  | ((with_reducible refine' s_lookK ?ee_ ?_); (case ee_ => rfl))
  | with_reducible refine s_seq ?_
  | with_reducible refine s_set ?_
  | with_reducible refine s_ret ?_
  | with_reducible refine s_retN ?_
  | with_reducible refine s_if ?_
  | with_reducible refine s_next ?_
  | with_reducible refine s_drop ?_
  | with_reducible refine s_brk ?_
  | with_reducible refine s_cnt ?_
  | with_reducible refine s_asg ?_
  | with_reducible refine s_raise ?_
  | with_reducible refine s_setIx ?_
  | ((with_reducible refine' s_gN ?ee_ ?_); (case ee_ => rfl))
  | with_reducible refine s_gNl ?_
  | with_reducible refine s_gCn ?_
  | ((with_reducible refine' s_gT ?ee_ ?_); (case ee_ => rfl))
  | ((with_reducible refine' s_gL ?ee_ ?_); (case ee_ => rfl))
  | with_reducible refine s_for ?_
  | with_reducible refine s_wSeq ?_
  | ((with_reducible refine' x_items ?ee_ ?ff_ ?_); (case ee_ => rfl); (case ff_ => rfl))
  | with_reducible refine s_rng1 ?_
  | ((with_reducible refine' x_rng1 ?ee_ ?aa_ ?bb_ ?_); (case ee_ => rfl); (case aa_ => omega); (case bb_ => omega))
  | with_reducible refine s_rng2 ?_
  | ((with_reducible refine' x_rng2 ?ee_ ?aa_ ?_); (case ee_ => rfl); (case aa_ => exact ⟨by omega, by omega, by omega, by omega⟩))
  | with_reducible refine s_enum ?_
  | ((with_reducible refine' x_enum ?ee_ ?_); (case ee_ => rfl))
  | with_reducible refine s_lc ?_
  | with_reducible refine s_lcG ?_
  | ((with_reducible refine' s_lcV ?ee_ ?ff_ ?_); (case ee_ => rfl); (case ff_ => rfl))
  | ((with_reducible refine' s_forV ?ee_ ?_); (case ee_ => rfl))
  | with_reducible refine isi_bl_bool ?_
  | with_reducible refine isi_bl_int ?_
  | with_reducible refine isi_bl_str ?_
  | with_reducible refine isi_bl_list ?_
  | with_reducible refine isi_bl_tuple ?_
  | with_reducible refine isi_int_bool ?_
  | with_reducible refine isi_int_int ?_
  | with_reducible refine isi_int_str ?_
  | with_reducible refine isi_int_list ?_
  | with_reducible refine isi_int_tuple ?_
  | with_reducible refine isi_str_bool ?_
  | with_reducible refine isi_str_int ?_
  | with_reducible refine isi_str_str ?_
  | with_reducible refine isi_str_list ?_
  | with_reducible refine isi_str_tuple ?_
  | with_reducible refine isi_lst_bool ?_
  | with_reducible refine isi_lst_int ?_
  | with_reducible refine isi_lst_str ?_
  | with_reducible refine isi_lst_list ?_
  | with_reducible refine isi_lst_tuple ?_
  | with_reducible refine isi_tup_bool ?_
  | with_reducible refine isi_tup_int ?_
  | with_reducible refine isi_tup_str ?_
  | with_reducible refine isi_tup_list ?_
  | with_reducible refine isi_tup_tuple ?_
  | with_reducible refine isi_non_bool ?_
  | with_reducible refine isi_non_int ?_
  | with_reducible refine isi_non_str ?_
  | with_reducible refine isi_non_list ?_
  | with_reducible refine isi_non_tuple ?_
  | ((with_reducible refine' o_rep1 ?aa_ ?_); (case aa_ => exact ⟨by omega, by omega⟩))
  | ((with_reducible refine' o_eqIs ?aa_ ?bb_ ?_); (case aa_ => first | omega | (simp only [List.length_map, List.length_range, List.length_replicate]; omega)); (case bb_ => first | omega | (simp only [List.length_map, List.length_range, List.length_replicate]; omega)))
  | with_reducible refine o_intB ?_
  | ((with_reducible refine' o_neIs ?aa_ ?bb_ ?_); (case aa_ => first | omega | (simp only [List.length_map, List.length_range, List.length_replicate]; omega)); (case bb_ => first | omega | (simp only [List.length_map, List.length_range, List.length_replicate]; omega)))
  | with_reducible refine s_par ?_
  | ((with_reducible refine' x_par ?ee_ ?ff_ ?gg_ ?_); (case ee_ => rfl); (case ff_ => rfl); (case gg_ => rfl))
  | with_reducible refine s_rng1L ?_
  | ((with_reducible refine' x_rng1L ?ee_ ?_); (case ee_ => rfl))
  | with_reducible refine s_rng2L ?_
  | ((with_reducible refine' x_rng2L ?ee_ ?_); (case ee_ => rfl))
  | with_reducible refine s_fset ?_
  | ((with_reducible refine' x_fset ?ee_ ?ff_ ?gg_ ?_); (case ee_ => rfl); (case ff_ => rfl); (case gg_ => rfl))
  | with_reducible refine s_tryG ?_
  | ((with_reducible refine' s_xv ?ee_ ?ff_ ?gg_ ?_); (case ee_ => rfl); (case ff_ => assumption); (case gg_ => assumption))
  | ((with_reducible refine' s_xis ?ee_ ?ff_ ?_); (case ee_ => rfl); (case ff_ => assumption))
  | ((with_reducible refine' x_xis ?ee_ ?ff_ ?_); (case ee_ => rfl); (case ff_ => assumption))
  | ((with_reducible refine' x_clear ?ee_ ?_); (case ee_ => rfl))
  | with_reducible refine s_yes ?_
  | ((with_reducible refine' s_end ?ee_ ?bb_ ?_); (case ee_ => rfl); (case bb_ => walk_at "bk"))
  | ((with_reducible refine' x_pxT ?ee_ ?_); (case ee_ => assumption))
  | with_reducible refine x_got rfl ?_
  | with_reducible refine x_in0 ?_
  | with_reducible refine x_inS ?_
  | ((with_reducible refine' s_gVal ?ee_ ?_); (case ee_ => rfl))
  | ((with_reducible refine' s_gTag ?ee_ ?_); (case ee_ => rfl))
  | ((with_reducible refine' x_px ?bb_ ?_); (case bb_ => walk_at "bk"))
  | ((with_reducible refine' s_endN ?bb_ ?_); (case bb_ => walk_at "bk"))
  | with_reducible refine iteT ?_
  | with_reducible refine iteF ?_
  | with_reducible refine r_iteNf ?_
  | with_reducible refine r_iteNt ?_)
local macro_rules | `(tactic| walk_at "ds") => `(tactic| (repeat' (walk_at "ds1")))
set_option hygiene false in
local macro_rules | `(tactic| walk_at "dx") => `(tactic| (repeat' (first | walk_at "ds1" | with_reducible refine (fun (a : Addr) => ?_ : ∀ _ : Addr, _) | with_reducible refine ite_d (fun c => ?_) (fun c => ?_) | with_reducible refine ite_nd (fun c => ?_) (fun c => ?_) | with_reducible refine ite_nb (fun c => ?_) (fun c => ?_) | with_reducible refine ite_b (fun c => ?_) (fun c => ?_))))
set_option hygiene false in
local macro_rules | `(tactic| walk_at "dy") => `(tactic| (repeat' (first | walk_at "ds1" | with_reducible refine (fun (a : Addr) => ?_ : ∀ _ : Addr, _))))
/-! ### the first length at which courses are unlike -/
inductive Unl (s1 : Int) (v1 : Nat → Int) (s2 : Int) (v2 : Nat → Int) : D → Prop
  | start : s1 ≠ s2 → Unl s1 v1 s2 v2 (.int (if s2 < s1 then s2 else s1))
  | at_ (k : Nat) : s1 = s2 → v1 k ≠ v2 k → (∀ j, j < k → v1 j = v2 j) → Unl s1 v1 s2 v2 (.int (s1 + k))
  | no : s1 = s2 → (∀ k, v1 k = v2 k) → Unl s1 v1 s2 v2 .non
theorem Unl.one {s1 s2 : Int} {v1 v2 : Nat → Int} {d d' : D} (a : Unl s1 v1 s2 v2 d) (b : Unl s1 v1 s2 v2 d') : d = d' := by
  cases a with
  | start h =>
    cases b with
    | start _ => rfl
    | at_ k q _ _ => exact absurd q h
    | no q _ => exact absurd q h
  | at_ k h h1 h2 =>
    cases b with
    | start q => exact absurd h q
    | at_ k' _ q1 q2 =>
      have : k = k' := by
        rcases Nat.lt_trichotomy k k' with c | c | c
        · exact absurd (q2 k c) h1
        · exact c
        · exact absurd (h2 k' c) q1
      rw [this]
    | no _ q => exact absurd (q k) h1
  | no h h1 =>
    cases b with
    | start q => exact absurd h q
    | at_ k' _ q1 _ => exact absurd (h1 k') q1
    | no _ _ => rfl
theorem Unl.symm {s1 s2 : Int} {v1 v2 : Nat → Int} {d : D} (a : Unl s1 v1 s2 v2 d) : Unl s2 v2 s1 v1 d := by
  cases a with
  | start h =>
    have e : (if s2 < s1 then s2 else s1) = (if s1 < s2 then s1 else s2) := by split <;> split <;> omega
    rw [e]
    exact .start fun q => h q.symm
  | at_ k h h1 h2 =>
    subst h
    exact .at_ k rfl (fun q => h1 q.symm) fun j hj => (h2 j hj).symm
  | no h h1 => exact .no h.symm fun k => (h1 k).symm
theorem Unl.cast {s1 s2 : Int} {v1 v2 w1 w2 : Nat → Int} {d : D} (a : Unl s1 v1 s2 v2 d) (h1 : ∀ k, v1 k = w1 k) (h2 : ∀ k, v2 k = w2 k) : Unl s1 w1 s2 w2 d := by
  rw [← show v1 = w1 from funext h1, ← show v2 = w2 from funext h2]; exact a
theorem Unl.ok {s1 s2 : Int} {v1 v2 : Nat → Int} {d : D} (a : Unl s1 v1 s2 v2 d) : okS 7 d = true := by cases a <;> rfl
theorem Unl.non {s1 s2 : Int} {v1 v2 : Nat → Int} {d : D} (a : Unl s1 v1 s2 v2 d) : isNon d = true ↔ s1 = s2 ∧ ∀ k, v1 k = v2 k := by
  cases a with
  | start h => exact ⟨fun q => (by cases q), fun q => absurd q.1 h⟩
  | at_ k h h1 h2 => exact ⟨fun q => (by cases q), fun q => absurd (q.2 k) h1⟩
  | no h h1 => exact ⟨fun _ => ⟨h, h1⟩, fun _ => rfl⟩
structure CQ (s : Int) (t : List Int) (p : Nat) (r : Int) : Prop where
  s1 : 1 ≤ s
  s2 : s < 2 ^ 301
  p1 : 1 ≤ p
  p2 : p ≤ 20
  pl : p ≤ t.length
  l : t.length ≤ 300
  r : Sm r
def conUnl (A : Ad) : Con := fun es P _ => ∃ (s1 : Int) (t1 : List Int) (p1 : Nat) (r1 s2 : Int) (t2 : List Int) (p2 : Nat) (r2 : Int), es = [.imm (crsD A.C_Course s1 t1 p1 r1), .imm (crsD A.C_Course s2 t2 p2 r2)] ∧ CQ s1 t1 p1 r1 ∧ CQ s2 t2 p2 r2 ∧
  ∀ d, Unl s1 (cval t1 p1 r1) s2 (cval t2 p2 r2) d → P (.imm d) es
def conLU : Con := fun es P _ => ∃ (s1 : Int) (row1 : List Int) (st1 m1 s2 : Int) (row2 : List Int) (st2 m2 : Int), es = [.imm (crsT s1 row1 st1 m1), .imm (crsT s2 row2 st2 m2)] ∧ CrsOk 300 s1 row1 st1 m1 ∧ CrsOk 300 s2 row2 st2 m2 ∧
  ∀ d, Unl s1 (cval row1 st1.toNat m1) s2 (cval row2 st2.toNat m2) d → P (.imm d) es
def conPart : Con := fun es P _ => ∃ (l : Addr) (n s : Int) (row : List Int) (step rise : Int), es = [.own l (.lst [.int n]), .imm (crsT s row step rise)] ∧ CrsOk 150 s row step rise ∧ row.length ≤ 79 ∧ step ≤ 20 ∧
  ∀ (s2 : Int) (row2 : List Int) (step2 rise2 n' : Int), CrsOk 300 s2 row2 step2 rise2 → row2.length ≤ 300 → step2 ≤ 20 → P (.imm (crsT s2 row2 step2 rise2)) [.own l (.lst [.int n']), .imm (crsT s row step rise)]
section
variable {P : Program} {w : World} {K : PySem.W.Frag} {mg : Str → Option Value} {base : Heap} {A : Ad}
theorem okd_Course_first_unlike (T : Txt K mg A) : FnOk P w K mg base (L2.CX P w) (4 + 1) A.f_Course_first_unlike A.d_Course_first_unlike P_Course_first_unlike (spD K (conUnl A)) := by
  have G_Course_least := okd_Course_least (P := P) (w := w) (base := base) T
  have G_Course_every := okd_Course_every (P := P) (w := w) (base := base) T
  have G_greatest_divisor := okd_greatest_divisor (P := P) (w := w) (base := base) T
  have G_Course_numbers := okd_Course_numbers (P := P) (w := w) (base := base) T
  have G_Course_at := okd_Course_at (P := P) (w := w) (base := base) T
  refine okD_fn T.F_Course_first_unlike sc_Course_first_unlike (fun es P PX h => ?_) (fun cdv A' outer s H I E es R PX hr fo hc => ?_)
  · obtain ⟨s1, t1, p1, r1, s2, t2, p2, r2, rfl, _⟩ := h
    rfl
  obtain ⟨s1, t1, p1, r1, s2, t2, p2, r2, rfl, c1, c2, hP⟩ := hc
  have hu := hu_of hr
  refine ⟨_, (dss_cons (ds_if (dt_cmp (dor_ne hr.units) (de_fld (dv 0) T.cl_Course T.na_Course_start) (de_prop (dv 1) T.cl_Course T.pr_Course_least G_Course_least (hr.mono (by first | decide | omega)) T.b_Course_least) (nomark _))
(dss_one (ds_ret (de_blt (dcr_min rfl) (by rfl) T.n_min (by decide +kernel) (da_cons (de_fld (dv 0) T.cl_Course T.na_Course_start) (da_cons (de_prop (dv 1) T.cl_Course T.pr_Course_least G_Course_least (hr.mono (by first | decide | omega)) T.b_Course_least) da_nil)))))
dss_nil)
(dss_cons (ds_set (i := 2) sc_Course_first_unlike.nd rfl (Or.inl rfl) (de_op dor_div (de_op dor_mul (de_fld (dv 0) T.cl_Course T.na_Course_period) (de_prop (dv 1) T.cl_Course T.pr_Course_every G_Course_every (hr.mono (by first | decide | omega)) T.b_Course_every)) (de_call G_greatest_divisor (hr.mono (by first | decide | omega)) rfl T.g_greatest_divisor T.k_greatest_divisor T.b_greatest_divisor (takes_of rfl rfl rfl rfl) fo (dg_v (de_fld (dv 0) T.cl_Course T.na_Course_period) (dg_v (de_prop (dv 1) T.cl_Course T.pr_Course_every G_Course_every (hr.mono (by first | decide | omega)) T.b_Course_every) dg_nil)))))
(dss_cons (ds_set (i := 3) sc_Course_first_unlike.nd rfl (Or.inl rfl) (de_op dor_add (de_fld (dv 0) T.cl_Course T.na_Course_start) (de_blt (dcr_max rfl) (by rfl) T.n_max (by decide +kernel) (da_cons (de_blt dcr_len (by rfl) T.n_len (by decide +kernel) (da_cons (de_fld (dv 0) T.cl_Course T.na_Course_told) da_nil)) (da_cons (de_blt dcr_len (by rfl) T.n_len (by decide +kernel) (da_cons (de_prop (dv 1) T.cl_Course T.pr_Course_numbers G_Course_numbers (hr.mono (by first | decide | omega)) T.b_Course_numbers) da_nil)) da_nil)))))
(dss_cons (ds_for (passes_of rfl) rfl (di_rng2L (by rfl) T.n_range (da_cons (de_fld (dv 0) T.cl_Course T.na_Course_start) (da_cons (de_op dor_add (dv 3) (de_op dor_mul de_int (dv 2))) da_nil))) (dg_name (i := 4) sc_Course_first_unlike.nd rfl (Or.inl rfl))
(dss_one (ds_if (dt_cmp (dor_ne hr.units) (de_meth (dv 0) T.cl_Course T.m_Course_at G_Course_at (hr.mono (by first | decide | omega)) T.b_Course_at (takes_of rfl rfl rfl rfl) fo (dg_v (dv 4) dg_nil)) (de_meth (dv 1) T.cl_Course T.m_Course_at G_Course_at (hr.mono (by first | decide | omega)) T.b_Course_at (takes_of rfl rfl rfl rfl) fo (dg_v (dv 4) dg_nil)) (nomark _))
(dss_one (ds_ret (dv 4)))
dss_nil)))
(dss_one (ds_ret de_non)))))), ?_⟩
  walk_at "dy"
  obtain ⟨a1, a2, a3, a7, a4, a5, a6⟩ := c1
  obtain ⟨b1, b2, b3, b7, b4, b5, b6⟩ := c2
  refine ⟨s2, t2, p2, r2, rfl, ?_⟩
  walk_at "dx"
  · refine ⟨s2, t2, p2, r2, rfl, ?_⟩
    walk_at "dx"
    exact hP _ (.start c)
  refine ⟨s2, t2, p2, r2, rfl, ?_⟩
  walk_at "dx"
  subst c
  have gp : 1 ≤ Nat.gcd p1 p2 := Nat.gcd_pos_of_pos_left _ a3
  have gl : Nat.gcd p1 p2 ≤ p1 := Nat.gcd_le_left _ a3
  refine ⟨s1, t2, p2, r2, rfl, ?_⟩
  walk_at "dx"
  refine ⟨p1, p2, rfl, a3, by omega, b3, by omega, ?_⟩
  walk_at "dx"
  have hpp : p1 * p2 ≤ 20 * 20 := Nat.mul_le_mul a7 b7
  have hE : (p1 : Int) * (p2 : Int) / ((Nat.gcd p1 p2 : Nat) : Int) = ((p1 * p2 / Nat.gcd p1 p2 : Nat) : Int) := by push_cast; rfl
  rw [hE]
  obtain ⟨m, n, E1, E2, m1, n1, dm, dn, le1, le2⟩ := lcm_facts a3 b3
  have hE4 : p1 * p2 / Nat.gcd p1 p2 ≤ 400 := Nat.le_trans (Nat.div_le_self _ _) hpp
  generalize hEE : p1 * p2 / Nat.gcd p1 p2 = E at *
  have smk : ∀ {x : Int}, 0 ≤ x → x < 2 ^ 300 → Sm x := fun {x} a b => by
    have z : ((x.natAbs : Nat) : Int) = x := Int.natAbs_of_nonneg a
    have y : ((x.natAbs : Nat) : Int) < ((2 ^ 300 : Nat) : Int) := by rw [z]; exact b
    exact Nat.lt_of_lt_of_le (Int.ofNat_lt.mp y) (Nat.pow_le_pow_right (by decide) (by decide))
  refine ⟨s1, t2, p2, r2, rfl, fun l1 => ?_⟩
  walk_at "dx"
  obtain ⟨S, hS, S1, S2⟩ : ∃ S : Int, (if (t2.length : Int) > (t1.length : Int) then (t2.length : Int) else (t1.length : Int)) = S ∧ (t1.length : Int) ≤ S ∧ (t2.length : Int) ≤ S ∧ S ≤ 300 := by
    refine ⟨_, rfl, ?_, ?_, ?_⟩ <;> split <;> omega
  obtain ⟨S2, S3⟩ := S2
  rw [hS]
  walk_at "dx"
  refine ⟨fun i e => ∃ v4 : Option Ent, e = [iD (crsD A.C_Course s1 t1 p1 r1), iD (crsD A.C_Course s1 t2 p2 r2), iI E, iI (s1 + S), v4] ∧ ∀ j, j < i → cval t1 p1 r1 j = cval t2 p2 r2 j, ⟨_, rfl, fun j h => absurd h (Nat.not_lt_zero _)⟩, ?_, ?_⟩
  · rintro i c e hc ⟨v4, rfl, hW⟩
    obtain ⟨hi, rfl⟩ := rng_get hc
    walk_at "dx"
    refine ⟨s1, t1, p1, r1, _, rfl, a3, a4, by omega, a6, fun x => by omega, fun x => ⟨smk (by omega) (by omega), ?_⟩⟩
    walk_at "dx"
    refine ⟨s1, t2, p2, r2, _, rfl, b3, b4, by omega, b6, fun x => by omega, fun x => ⟨smk (by omega) (by omega), ?_⟩⟩
    rw [show (s1 + (i : Int) - s1).toNat = i by omega]
    walk_at "dx"
    · exact hP _ (.at_ i rfl c hW)
    · refine ⟨_, rfl, fun j hj => ?_⟩
      by_cases hji : j < i
      · exact hW j hji
      · rw [show j = i by omega]; exact c
  · rintro e ⟨v4, rfl, hW⟩
    rw [rngD_len] at hW
    walk_at "dx"
    refine hP _ (.no rfl fun k => ?_)
    by_cases hk : k < S.toNat
    · exact hW k (by omega)
    · exact agree ((cval_qp (row := t1) (e := p1) (m := r1) a3 a4).up (M := S.toNat) (by omega)) ((cval_qp (row := t2) (e := p2) (m := r2) b3 b4).up (by omega)) (fun k h1 h2 => hW k (by omega)) a3 b3 k (by omega)
theorem okd__law_unlike (T : Txt K mg A) : FnOk P w K mg base (L2.CX P w) (2 + 1) A.f__law_unlike A.d__law_unlike P__law_unlike (spD K conLU) := by
  have G__law_value := okd__law_value (P := P) (w := w) (base := base) T
  refine okD_fn T.F__law_unlike sc__law_unlike (fun es P PX h => ?_) (fun cdv A' outer s H I E es R PX hr fo hc => ?_)
  · obtain ⟨s1, row1, st1, m1, s2, row2, st2, m2, rfl, _⟩ := h
    rfl
  obtain ⟨s1, row1, st1, m1, s2, row2, st2, m2, rfl, o1, o2, hP⟩ := hc
  have hu := hu_of hr
  refine ⟨_, (dss_cons (ds_if (dt_cmp (dor_ne hr.units) (de_ix dix (dv 0) de_int) (de_ix dix (dv 1) de_int) (nomark _))
(dss_one (ds_ret (de_blt (dcr_min rfl) (by rfl) T.n_min (by decide +kernel) (da_cons (de_ix dix (dv 0) de_int) (da_cons (de_ix dix (dv 1) de_int) da_nil)))))
dss_nil)
(dss_cons (ds_for (passes_of rfl) rfl (di_rng1 (by rfl) T.n_range (da_cons (de_op dor_add (de_op dor_add (de_blt dcr_len (by rfl) T.n_len (by decide +kernel) (da_cons (de_ix dix (dv 0) de_int) da_nil)) (de_blt dcr_len (by rfl) T.n_len (by decide +kernel) (da_cons (de_ix dix (dv 1) de_int) da_nil))) (de_op dor_mul de_int (de_op dor_add (de_ix dix (dv 0) de_int) (de_ix dix (dv 1) de_int)))) da_nil)) (dg_name (i := 2) sc__law_unlike.nd rfl (Or.inl rfl))
(dss_one (ds_if (dt_cmp (dor_ne hr.units) (de_call G__law_value (hr.mono (by first | decide | omega)) rfl T.g__law_value T.k__law_value T.b__law_value (takes_of rfl rfl rfl rfl) fo (dg_v (dv 0) (dg_v (dv 2) dg_nil))) (de_call G__law_value (hr.mono (by first | decide | omega)) rfl T.g__law_value T.k__law_value T.b__law_value (takes_of rfl rfl rfl rfl) fo (dg_v (dv 1) (dg_v (dv 2) dg_nil))) (nomark _))
(dss_one (ds_ret (de_op dor_add (de_ix dix (dv 0) de_int) (dv 2))))
dss_nil)))
(dss_one (ds_ret de_non)))), ?_⟩
  walk_at "dy"
  have a1 := o1.s1
  have a2 := o1.s2
  have a3 := o1.e1
  have a4 := o1.e2
  have a5 := o1.l
  have b1 := o2.s1
  have b2 := o2.s2
  have b3 := o2.e1
  have b4 := o2.e2
  have b5 := o2.l
  walk_at "dx"
  · exact hP _ (.start c)
  subst c
  have smk : ∀ {x : Int}, 0 ≤ x → x < 2 ^ 300 → Sm x := fun {x} a b => by
    have z : ((x.natAbs : Nat) : Int) = x := Int.natAbs_of_nonneg a
    have y : ((x.natAbs : Nat) : Int) < ((2 ^ 300 : Nat) : Int) := by rw [z]; exact b
    exact Nat.lt_of_lt_of_le (Int.ofNat_lt.mp y) (Nat.pow_le_pow_right (by decide) (by decide))
  refine ⟨fun i e => ∃ v2 : Option Ent, e = [iD (crsT s1 row1 st1 m1), iD (crsT s1 row2 st2 m2), v2] ∧ ∀ j, j < i → cval row1 st1.toNat m1 j = cval row2 st2.toNat m2 j, ⟨_, rfl, fun j h => absurd h (Nat.not_lt_zero _)⟩, ?_, ?_⟩
  · rintro i c e hc ⟨v2, rfl, hW⟩
    obtain ⟨hi, rfl⟩ := rng_get hc
    walk_at "dx"
    refine ⟨s1, row1, st1, m1, _, rfl, o1, by omega, smk (by omega) (by omega), ?_⟩
    walk_at "dx"
    refine ⟨s1, row2, st2, m2, _, rfl, o2, by omega, smk (by omega) (by omega), ?_⟩
    rw [show (0 + (i : Int)).toNat = i by omega]
    walk_at "dx"
    · have z := hP _ (.at_ i rfl c hW)
      rw [show s1 + (0 + (i : Int)) = s1 + (i : Int) by omega]
      exact z
    · refine ⟨_, rfl, fun j hj => ?_⟩
      by_cases hji : j < i
      · exact hW j hji
      · rw [show j = i by omega]; exact c
  · rintro e ⟨v2, rfl, hW⟩
    rw [rngD_len] at hW
    walk_at "dx"
    refine hP _ (.no rfl fun k => ?_)
    by_cases hk : k < row1.length + row2.length
    · exact hW k (by omega)
    · refine agree ((cval_qp (row := row1) (e := st1.toNat) (m := m1) (by omega) (by omega)).up (M := row1.length + row2.length) (by omega)) ((cval_qp (row := row2) (e := st2.toNat) (m := m2) (by omega) (by omega)).up (by omega)) (fun k h1 h2 => hW k (by omega)) (by omega) (by omega) k (by omega)
theorem okd__law_partner (T : Txt K mg A) : FnOk P w K mg base (L2.CX P w) (4 + 1) A.f__law_partner A.d__law_partner P__law_partner (spD K conPart) := by
  have G__law_pick := okd__law_pick (P := P) (w := w) (base := base) T
  have G__law_value := okd__law_value (P := P) (w := w) (base := base) T
  have G__law_course := okd__law_course (P := P) (w := w) (base := base) T
  refine okD_fn T.F__law_partner sc__law_partner (fun es P PX h => ?_) (fun cdv A' outer s H I E es R PX hr fo hc => ?_)
  · obtain ⟨l, n, s, row, step, rise, rfl, _⟩ := h
    rfl
  obtain ⟨l, n, s, row, step, rise, rfl, ok, h79, h20, hP⟩ := hc
  have hu := hu_of hr
  refine ⟨_, (dss_cons (ds_set (i := 2) sc__law_partner.nd rfl (Or.inl rfl) (de_call G__law_pick (hr.mono (by first | decide | omega)) rfl T.g__law_pick T.k__law_pick T.b__law_pick (takes_of rfl rfl rfl rfl) fo (gr 0 (dg_v de_int dg_nil))))
(dss_cons (ds_asg (dv 1) (dg_tup (n := 4) rfl (dgs_cons (dg_name (i := 3) sc__law_partner.nd rfl (Or.inl rfl)) (dgs_cons (dg_name (i := 4) sc__law_partner.nd rfl (Or.inl rfl)) (dgs_cons (dg_name (i := 5) sc__law_partner.nd rfl (Or.inl rfl)) (dgs_cons (dg_name (i := 6) sc__law_partner.nd rfl (Or.inl rfl)) dgs_nil))))))
(dss_cons (ds_set (i := 7) sc__law_partner.nd rfl (Or.inl rfl) (de_call G__law_pick (hr.mono (by first | decide | omega)) rfl T.g__law_pick T.k__law_pick T.b__law_pick (takes_of rfl rfl rfl rfl) fo (gr 0 (dg_v (de_blt dcr_len (by rfl) T.n_len (by decide +kernel) (da_cons (dv 4) da_nil)) dg_nil))))
(dss_cons (ds_set (i := 8) sc__law_partner.nd rfl (Or.inl rfl) (de_ix dix (de_lst (da_cons de_int (da_cons (de_neg de_int) da_nil))) (de_call G__law_pick (hr.mono (by first | decide | omega)) rfl T.g__law_pick T.k__law_pick T.b__law_pick (takes_of rfl rfl rfl rfl) fo (gr 0 (dg_v de_int dg_nil)))))
(dss_cons (ds_if (dt_cmp (dor_eq hr.units) (dv 2) de_int (nomark _))
(dss_one (ds_ret (de_tup (da_cons (dv 3) (da_cons (de_lc (own := [("_law_k", 11)]) (by rfl) sc__law_partner.nd (di_rng1 (by rfl) T.n_range (da_cons (de_op dor_add (de_op dor_add (de_blt dcr_len (by rfl) T.n_len (by decide +kernel) (da_cons (dv 4) da_nil)) de_int) (dv 7)) da_nil)) (blkOk_by (own := [("_law_k", 11)]) (N := N__law_partner) (sc := defScope s__law_partner) (by decide +kernel)) (fun _ _ _ _ _ => by exact (dg_name (i := 11) sc__law_partner.nd rfl (Or.inl rfl))) (fun _ _ _ _ _ => by exact dts_nil) (fun _ _ _ _ _ => by exact (de_call G__law_value (hr.mono (by first | decide | omega)) rfl T.g__law_value T.k__law_value T.b__law_value takes0 frok_nox (dg_v (dv 1) (dg_v (dv 11) dg_nil)))) (by rfl)) (da_cons (dv 5) (da_cons (dv 6) da_nil)))))))
dss_nil)
(dss_cons (ds_if (dt_cmp (dor_eq hr.units) (dv 2) de_int (nomark _))
(dss_one (ds_ret (de_tup (da_cons (de_op dor_add (de_op dor_add (dv 3) de_int) (dv 7)) (da_cons (dv 4) (da_cons (dv 5) (da_cons (dv 6) da_nil)))))))
dss_nil)
(dss_cons (ds_if (dt_cmp (dor_eq hr.units) (dv 2) de_int (nomark _))
(dss_one (ds_ret (de_tup (da_cons (dv 3) (da_cons (dv 4) (da_cons (dv 5) (da_cons (de_op dor_add (dv 6) (dv 8)) da_nil)))))))
dss_nil)
(dss_cons (ds_if (dt_cmp (dor_eq hr.units) (dv 2) de_int (nomark _))
(dss_one (ds_ret (de_call G__law_course (hr.mono (by first | decide | omega)) rfl T.g__law_course T.k__law_course T.b__law_course (takes_of rfl rfl rfl rfl) fo (gr 0 (dg_v de_int dg_nil)))))
dss_nil)
(dss_cons (ds_if (dt_cmp (dor_eq hr.units) (dv 2) de_int (nomark _))
(dss_one (ds_ret (de_tup (da_cons (dv 3) (da_cons (de_op dor_rep (de_lst (da_cons de_int da_nil)) de_int) (da_cons de_int (da_cons de_int da_nil)))))))
dss_nil)
(dss_cut (ds_set (i := 9) sc__law_partner.nd rfl (Or.inl rfl) (de_op dor_add (de_blt dcr_len (by rfl) T.n_len (by decide +kernel) (da_cons (dv 4) da_nil)) (dv 7)))
(dss_cons (ds_setLc (i := 10) (own := [("_law_k", 11)]) (by rfl) sc__law_partner.nd rfl rfl (sw_true rfl rfl rfl (by decide +kernel)) (di_rng1 (by rfl) T.n_range (da_cons (de_op dor_add (dv 9) (dv 5)) da_nil)) (blkOk_by (own := [("_law_k", 11)]) (N := N__law_partner) (sc := defScope s__law_partner) (by decide +kernel)) (fun _ _ _ _ _ => by exact (dg_name (i := 11) sc__law_partner.nd rfl (Or.inl rfl))) (fun _ _ _ _ _ => by exact dts_nil) (fun _ _ _ _ _ => by exact (de_call G__law_value (hr.mono (by first | decide | omega)) rfl T.g__law_value T.k__law_value T.b__law_value takes0 frok_nox (dg_v (dv 1) (dg_v (dv 11) dg_nil)))) (by rfl))
(dss_cut (ds_if (dt_cmp (dor_eq hr.units) (dv 2) de_int (nomark _))
(dss_one (ds_setIx (pv 10) (dv 7) (de_op dor_add (de_ix dix (dv 10) (dv 7)) (dv 8))))
(dss_one (ds_setIx (pv 10) (dv 9) (de_op dor_add (de_ix dix (dv 10) (dv 9)) (dv 8)))))
(dss_one (ds_ret (de_tup (da_cons (dv 3) (da_cons (dv 10) (da_cons (dv 5) (da_cons (dv 6) da_nil))))))))))))))))))), ?_⟩
  walk_at "dy"
  have a1 := ok.s1
  have a3 := ok.e1
  have a4 := ok.e2
  refine ⟨l, n, 7, rfl, by decide, by decide, fun way n1 w0 w1 => ?_⟩
  walk_at "dx"
  refine ⟨l, n1, row.length, rfl, by omega, .inl (by omega), fun at_ n2 t0 t1 => ?_⟩
  walk_at "dx"
  refine ⟨l, n2, 2, rfl, by decide, by decide, fun x n3 x0 x1 => ?_⟩
  walk_at "dx"
  refine ix2 x0 x1 fun sg hsg => ?_
  walk_at "dx"
  · have smk : ∀ {x : Int}, 0 ≤ x → x < 1000 → Sm x := fun {x} a b => by
      have : x.natAbs < 2 ^ 20 := by omega
      exact Nat.lt_of_lt_of_le this (Nat.pow_le_pow_right (by decide) (by decide))
    have u := ok.up (C := 300) (by decide)
    refine ⟨by rw [rngD_len]; omega, fun i acc => ∃ vs : List Int, acc = vs.map D.int ∧ vs.length = i, ⟨[], rfl, rfl⟩, ?_, ?_⟩
    · rintro i d acc hd ⟨vs, rfl, hvl⟩
      obtain ⟨hi, rfl⟩ := rng_get hd
      walk_at "dx"
      refine ⟨s, row, step, rise, _, rfl, u, by omega, smk (by omega) (by omega), ?_⟩
      walk_at "dx"
      exact ⟨rfl, vs ++ [_], by rw [List.map_append]; rfl, by rw [List.length_append, hvl]; rfl⟩
    rintro acc ⟨vs, rfl, hvl⟩
    rw [rngD_len] at hvl
    walk_at "dx"
    exact hP _ _ _ _ _ ⟨u.s1, u.s2, u.e1, by omega, by omega, u.m⟩ (by omega) h20
  · have u := ok.up (C := 299) (by decide)
    have p1 : (2 : Int) ^ 150 + 1000 < 2 ^ 300 := by decide
    have := ok.s2
    have u3 := ok.up (C := 300) (by decide)
    exact hP _ _ _ _ _ ⟨by omega, by omega, u3.e1, u3.e2, u3.l, u3.m⟩ (by omega) h20
  · have p1 : (2 : Nat) ^ 150 + 1000 < 2 ^ 300 := by decide
    have := ok.m
    have u3 := ok.up (C := 300) (by decide)
    exact hP _ _ _ _ _ ⟨u3.s1, u3.s2, u3.e1, u3.e2, u3.l, by rcases hsg with rfl | rfl <;> omega⟩ (by omega) h20
  · refine ⟨l, n3, 20, rfl, by decide, by decide, fun s4 row4 st4 m4 n4 o4 h4 h5 _ => ?_⟩
    walk_at "dx"
    exact hP _ _ _ _ _ (o4.up (by decide)) (by omega) h5
  · have u3 := ok.up (C := 300) (by decide)
    exact hP _ _ _ _ _ ⟨u3.s1, u3.s2, by decide, by decide, by decide, by decide⟩ (by decide) (by decide)
  · obtain ⟨at0, rfl⟩ : ∃ at0 : Nat, at_ = at0 := ⟨at_.toNat, by omega⟩
    have smk : ∀ {x : Int}, 0 ≤ x → x < 1000 → Sm x := fun {x} a b => by
      have : x.natAbs < 2 ^ 20 := by omega
      exact Nat.lt_of_lt_of_le this (Nat.pow_le_pow_right (by decide) (by decide))
    have u := ok.up (C := 300) (by decide)
    refine s_cut (fun e => ∃ v8 : Option Ent, e = [some (.own l (.lst [.int n3])), iD (crsT s row step rise), iI way, iI s, iD (intsD row), iI step, iI rise, iI at0, v8, iI ((row.length : Int) + at0), none, none] ∧ v8 = iI sg) ?_ ?_
    · walk_at "dx"
      exact ⟨_, rfl, rfl⟩
    rintro e ⟨_, rfl, rfl⟩
    walk_at "dx"
    refine ⟨by rw [rngD_len]; omega, fun i acc => ∃ vs : List Int, acc = vs.map D.int ∧ vs.length = i, ⟨[], rfl, rfl⟩, ?_, ?_⟩
    · rintro i d acc hd ⟨vs, rfl, hvl⟩
      obtain ⟨hi, rfl⟩ := rng_get hd
      walk_at "dx"
      refine ⟨s, row, step, rise, _, rfl, u, by omega, smk (by omega) (by omega), ?_⟩
      walk_at "dx"
      exact ⟨rfl, vs ++ [_], by rw [List.map_append]; rfl, by rw [List.length_append, hvl]; rfl⟩
    rintro acc ⟨vs, rfl, hvl⟩
    rw [rngD_len] at hvl
    walk_at "dx"
    refine s_cut (fun e => ∃ (qq : Addr) (us : List Int), e = [some (.own l (.lst [.int n3])), iD (crsT s row step rise), iI way, iI s, iD (intsD row), iI step, iI rise, iI at0, iI sg, iI ((row.length : Int) + at0), some (.own qq (intsD us)), none] ∧ us.length = vs.length) ?_ ?_
    · walk_at "dx"
      · refine ⟨⟨_, _, rfl⟩, ?_⟩
        walk_at "dx"
        refine ⟨_, _, _, _, _, at0, rfl, rfl, rfl, (by unfold ixN; rw [List.length_map, if_pos (by omega), if_pos (by omega)]; rfl), ?_⟩
        rw [← List.map_set]
        walk_at "dx"
        exact ⟨_, _, rfl, by rw [List.length_set]⟩
      · refine ⟨⟨_, _, rfl⟩, ?_⟩
        walk_at "dx"
        refine ⟨_, _, _, _, _, row.length + at0, rfl, rfl, rfl, (by unfold ixN; rw [List.length_map, if_pos (by omega), if_pos (by omega), show ((row.length : Int) + at0).toNat = row.length + at0 by omega]), ?_⟩
        rw [← List.map_set]
        walk_at "dx"
        exact ⟨_, _, rfl, by rw [List.length_set]⟩
    rintro e ⟨qq, us, rfl, hul⟩
    walk_at "dx"
    exact hP _ _ _ _ _ ⟨u.s1, u.s2, u.e1, by omega, by omega, u.m⟩ (by omega) h20
theorem okd_law (T : Txt K mg A) : FnOk P w K mg base (L2.CX P w) (10 + 1) A.f_law A.d_law P_law (spD K conLaw) := by
  have G__law_well := okd__law_well (P := P) (w := w) (base := base) T
  have G__law_course := okd__law_course (P := P) (w := w) (base := base) T
  have G__law_partner := okd__law_partner (P := P) (w := w) (base := base) T
  have G__law_unlike := okd__law_unlike (P := P) (w := w) (base := base) T
  have G_Course___init__ := okd_Course___init__ (P := P) (w := w) (base := base) T
  have G_Course_numbers := okd_Course_numbers (P := P) (w := w) (base := base) T
  have G_Course_every := okd_Course_every (P := P) (w := w) (base := base) T
  have G__law_same := okd__law_same (P := P) (w := w) (base := base) T
  have G_Course_first_unlike := okd_Course_first_unlike (P := P) (w := w) (base := base) T
  have G_Course___eq__ := okd_Course___eq__ (P := P) (w := w) (base := base) T
  refine okD_fn T.F_law sc_law (fun es P PX h => ?_) (fun cdv A' outer s H I E es R PX hr fo hc => ?_)
  · obtain ⟨ns, rfl, _⟩ := h
    rfl
  obtain ⟨ns, rfl, hl, hP⟩ := hc
  have hu := hu_of hr
  refine ⟨_, (dss_cons (ds_for (passes_of rfl) rfl (di_seq (de_op dor_add (de_lst (da_cons (de_op dor_add (de_op dor_pow de_int de_int) de_int) da_nil)) (de_sl (dv 0) dx_no (dx_some de_int)))) (dg_name (i := 1) sc_law.nd rfl (Or.inl rfl))
(dss_cons (ds_set (i := 2) sc_law.nd rfl (Or.inl rfl) (de_call G__law_well (hr.mono (by first | decide | omega)) rfl T.g__law_well T.k__law_well T.b__law_well (takes_of rfl rfl rfl rfl) fo (dg_v (dv 1) (dg_v de_int dg_nil))))
(dss_cons (ds_set (i := 3) sc_law.nd rfl (Or.inl rfl) (de_call G__law_course (hr.mono (by first | decide | omega)) rfl T.g__law_course T.k__law_course T.b__law_course (takes_of rfl rfl rfl rfl) fo (gr 2 (dg_v de_int dg_nil))))
(dss_cons (ds_set (i := 4) sc_law.nd rfl (Or.inl rfl) (de_call G__law_partner (hr.mono (by first | decide | omega)) rfl T.g__law_partner T.k__law_partner T.b__law_partner (takes_of rfl rfl rfl rfl) fo (gr 2 (dg_v (dv 3) dg_nil))))
(dss_cons (ds_set (i := 5) sc_law.nd rfl (Or.inl rfl) (de_call G__law_unlike (hr.mono (by first | decide | omega)) rfl T.g__law_unlike T.k__law_unlike T.b__law_unlike (takes_of rfl rfl rfl rfl) fo (dg_v (dv 3) (dg_v (dv 4) dg_nil))))
(dss_cons (ds_set (i := 6) sc_law.nd rfl (Or.inl rfl) (de_make T.M_Course G_Course___init__ mkD_Course (hr.mono (by first | decide | omega)) rfl T.g_Course T.b_Course___init__ (takes_of rfl rfl rfl rfl) fo (dg_v (de_ix dix (dv 3) de_int) (dg_v (de_typ dcr_list (by rfl) T.n_list (by decide +kernel) (da_cons (de_ix dix (dv 3) de_int) da_nil)) (dg_v (de_ix dix (dv 3) de_int) (dg_v (de_ix dix (dv 3) de_int) dg_nil))))))
(dss_cut (ds_set (i := 7) sc_law.nd rfl (Or.inl rfl) (de_make T.M_Course G_Course___init__ mkD_Course (hr.mono (by first | decide | omega)) rfl T.g_Course T.b_Course___init__ (takes_of rfl rfl rfl rfl) fo (dg_v (de_ix dix (dv 4) de_int) (dg_v (de_typ dcr_list (by rfl) T.n_list (by decide +kernel) (da_cons (de_ix dix (dv 4) de_int) da_nil)) (dg_v (de_ix dix (dv 4) de_int) (dg_v (de_ix dix (dv 4) de_int) dg_nil))))))
(dss_cons (ds_set (i := 8) sc_law.nd rfl (Or.inl rfl) (de_make T.M_Course G_Course___init__ mkD_Course (hr.mono (by first | decide | omega)) rfl T.g_Course T.b_Course___init__ (takes_of rfl rfl rfl rfl) fo (dg_v (de_op dor_add (de_ix dix (dv 3) de_int) de_int) (dg_v (de_lst (da_cons de_int da_nil)) (dg_v de_int (dg_v de_int dg_nil))))))
(dss_cut (ds_set (i := 9) sc_law.nd rfl (Or.inl rfl) (de_tup (da_cons (de_prop (dv 6) T.cl_Course T.pr_Course_numbers G_Course_numbers (hr.mono (by first | decide | omega)) T.b_Course_numbers) (da_cons (de_prop (dv 6) T.cl_Course T.pr_Course_every G_Course_every (hr.mono (by first | decide | omega)) T.b_Course_every) (da_cons (de_prop (dv 7) T.cl_Course T.pr_Course_numbers G_Course_numbers (hr.mono (by first | decide | omega)) T.b_Course_numbers) (da_cons (de_prop (dv 7) T.cl_Course T.pr_Course_every G_Course_every (hr.mono (by first | decide | omega)) T.b_Course_every) da_nil))))))
(dss_cons (ds_for (passes_of rfl) rfl (di_rng1 (by rfl) T.n_range (da_cons de_int da_nil)) (dg_name (i := 10) sc_law.nd rfl (Or.inl rfl))
(dss_cons (ds_if (dt_w (dw_or (dt_not (dt_val (de_call G__law_same (hr.mono (by first | decide | omega)) rfl T.g__law_same T.k__law_same T.b__law_same (takes_of rfl rfl rfl rfl) fo (dg_v (de_meth (dv 6) T.cl_Course T.m_Course_first_unlike G_Course_first_unlike (hr.mono (by first | decide | omega)) T.b_Course_first_unlike (takes_of rfl rfl rfl rfl) fo (dg_v (dv 7) dg_nil)) (dg_v (dv 5) dg_nil))))) (dw_or1 (dt_not (dt_val (de_call G__law_same (hr.mono (by first | decide | omega)) rfl T.g__law_same T.k__law_same T.b__law_same (takes_of rfl rfl rfl rfl) fo (dg_v (de_methK (ks := ["other"]) (ix := [0]) (dv 7) T.cl_Course T.m_Course_first_unlike G_Course_first_unlike (hr.mono (by first | decide | omega)) T.kw_Course_first_unlike_other (takes_of rfl rfl rfl rfl) fo (dk_cons (dv 6) dk_nil)) (dg_v (dv 5) dg_nil))))))))
(dss_one (ds_ret de_bl))
dss_nil)
(dss_one (ds_if (dt_w (dw_or (dt_not (dt_val (de_call G__law_same (hr.mono (by first | decide | omega)) rfl T.g__law_same T.k__law_same T.b__law_same (takes_of rfl rfl rfl rfl) fo (dg_v (de_meth (dv 6) T.cl_Course T.m_Course_first_unlike G_Course_first_unlike (hr.mono (by first | decide | omega)) T.b_Course_first_unlike (takes_of rfl rfl rfl rfl) fo (dg_v (dv 8) dg_nil)) (dg_v (de_ix dix (dv 3) de_int) dg_nil))))) (dw_or1 (dt_cmp dor_isNot (de_meth (dv 6) T.cl_Course T.m_Course_first_unlike G_Course_first_unlike (hr.mono (by first | decide | omega)) T.b_Course_first_unlike (takes_of rfl rfl rfl rfl) fo (dg_v (dv 6) dg_nil)) de_non (nomark _)))))
(dss_one (ds_ret de_bl))
dss_nil))))
(dss_cons (ds_if (dt_not (dt_val (de_call G__law_same (hr.mono (by first | decide | omega)) rfl T.g__law_same T.k__law_same T.b__law_same (takes_of rfl rfl rfl rfl) fo (dg_v (de_tup (da_cons (de_prop (dv 6) T.cl_Course T.pr_Course_numbers G_Course_numbers (hr.mono (by first | decide | omega)) T.b_Course_numbers) (da_cons (de_prop (dv 6) T.cl_Course T.pr_Course_every G_Course_every (hr.mono (by first | decide | omega)) T.b_Course_every) (da_cons (de_prop (dv 7) T.cl_Course T.pr_Course_numbers G_Course_numbers (hr.mono (by first | decide | omega)) T.b_Course_numbers) (da_cons (de_prop (dv 7) T.cl_Course T.pr_Course_every G_Course_every (hr.mono (by first | decide | omega)) T.b_Course_every) da_nil))))) (dg_v (dv 9) dg_nil)))))
(dss_one (ds_ret de_bl))
dss_nil)
(dss_one (ds_if (dt_not (dt_val (de_call G__law_same (hr.mono (by first | decide | omega)) rfl T.g__law_same T.k__law_same T.b__law_same (takes_of rfl rfl rfl rfl) fo (dg_v (de_lst (da_cons (de_eqO (dv 6) (dv 7) G_Course___eq__ (hr.mono (by first | decide | omega)) T.m_Course___eq__ T.b_Course___eq__) (da_cons (de_eqO (dv 7) (dv 6) G_Course___eq__ (hr.mono (by first | decide | omega)) T.m_Course___eq__ T.b_Course___eq__) da_nil))) (dg_v (de_lst (da_cons (de_cmp dor_is (dv 5) de_non (nomark _)) (da_cons (de_cmp dor_is (dv 5) de_non (nomark _)) da_nil))) dg_nil)))))
(dss_one (ds_ret de_bl))
dss_nil)))))))))))))
(dss_one (ds_ret de_bl))), ?_⟩
  walk_at "dy"
  rw [cut_take (by decide)]
  refine o_addL (Nat.le_trans (m := 1000) (by simp only [List.length_cons, List.length_nil, List.length_take, List.length_map]; omega) (by decide)) ?_
  walk_at "dx"
  refine ⟨fun i e => ∃ v1 v2 v3 v4 v5 v6 v7 v8 v9 v10 : Option Ent, e = [iD (.fls (ns.map D.int)), v1, v2, v3, v4, v5, v6, v7, v8, v9, v10], ⟨_, _, _, _, _, _, _, _, _, _, rfl⟩, ?_, ?_⟩
  · rintro i c e hc ⟨v1, v2, v3, v4, v5, v6, v7, v8, v9, v10, rfl⟩
    obtain ⟨cell, rfl⟩ := cells_int hc
    walk_at "dx"
    refine ⟨cell, 52, rfl, by decide, by decide, fun n l => ?_⟩
    walk_at "dx"
    refine ⟨l, n, 20, rfl, by decide, by decide, fun s1 row1 st1 m1 n2 o1 h1 h3 _ => ?_⟩
    walk_at "dx"
    refine ⟨l, n2, s1, row1, st1, m1, rfl, o1, by omega, h3, fun s2 row2 st2 m2 n3 o2 h2 h4 => ?_⟩
    walk_at "dx"
    have o1 := o1.up (C := 300) (by decide)
    refine ⟨s1, row1, st1, m1, s2, row2, st2, m2, rfl, o1, o2, fun dd hdd => ?_⟩
    walk_at "dx"
    have hsm : ∀ {B : Nat} {m : Int}, B ≤ 4000 → m.natAbs < 2 ^ B → Sm m := fun {B m} a b => Nat.lt_of_lt_of_le b (Nat.pow_le_pow_right (by decide) a)
    have a1 := o1.s1
    have a2 := o1.s2
    have a3 := o1.e1
    have a4 := o1.e2
    have b1 := o2.s1
    have b2 := o2.s2
    have b3 := o2.e1
    have b4 := o2.e2
    have p301 : (2 : Int) ^ 300 + 10 < 2 ^ 301 := by decide
    refine ⟨s1, _, row1, st1, m1, rfl, .inl rfl, by omega, fun x => by omega, fun x y => by omega, fun x y z => ⟨hsm (by decide) o1.m, fun t1 p1 r1 cn1 tl1 hr1 => ?_⟩⟩
    walk_at "dx"
    refine s_cut (fun e => ∃ (t2 : List Int) (p2 : Nat) (r2 : Int), e = [iD (.fls (ns.map D.int)), iI cell, some (.own l (.lst [.int n3])), iD (crsT s1 row1 st1 m1), iD (crsT s2 row2 st2 m2), iD dd, iD (crsD A.C_Course s1 t1 p1 r1), iD (crsD A.C_Course s2 t2 p2 r2), v8, v9, v10] ∧ Canon t2 p2 r2 (cval row2 st2.toNat m2) ∧ t2.length ≤ row2.length ∧ Sm r2) ?_ ?_
    · walk_at "dx"
      refine ⟨s2, _, row2, st2, m2, rfl, .inl rfl, by omega, fun x => by omega, fun x y => by omega, fun x y z => ⟨hsm (by decide) o2.m, fun t2 p2 r2 cn2 tl2 hr2 => ?_⟩⟩
      walk_at "dx"
      exact ⟨t2, p2, r2, rfl, cn2, tl2, hr2⟩
    rintro e ⟨t2, p2, r2, rfl, cn2, tl2, hr2⟩
    have q1 := cval_qp (row := row1) (e := st1.toNat) (m := m1) (by omega) (by omega)
    have q2 := cval_qp (row := row2) (e := st2.toNat) (m := m2) (by omega) (by omega)
    have hp1 : p1 ≤ 20 := Nat.le_trans (cn1.least st1.toNat (by omega) ⟨_, _, q1⟩) (by omega)
    have hp2 : p2 ≤ 20 := Nat.le_trans (cn2.least st2.toNat (by omega) ⟨_, _, q2⟩) (by omega)
    have d1 : CQ s1 t1 p1 r1 := ⟨a1, by omega, cn1.p1, hp1, cn1.pl, by omega, hr1⟩
    have d2 : CQ s2 t2 p2 r2 := ⟨b1, by omega, cn2.p1, hp2, cn2.pl, by omega, hr2⟩
    have u1 : ∀ d, Unl s1 (cval t1 p1 r1) s2 (cval t2 p2 r2) d → d = dd := fun d h => (h.cast (fun k => (cn1.val k).symm) (fun k => (cn2.val k).symm)).one hdd
    walk_at "dx"
    refine ⟨s1 + 1, _, [0], 1, 0, rfl, .inl rfl, by decide, fun x => by omega, fun x y => by simp at y, fun x y z => ⟨by unfold Sm; decide, fun t3 p3 r3 cn3 tl3 hr3 => ?_⟩⟩
    have tl3 : t3.length ≤ 1 := tl3
    have d3 : CQ (s1 + 1) t3 p3 r3 := ⟨by omega, by omega, cn3.p1, by have := cn3.pl; omega, cn3.pl, by omega, hr3⟩
    walk_at "dx"
    refine s_cut (fun e => e = [iD (.fls (ns.map D.int)), iI cell, some (.own l (.lst [.int n3])), iD (crsT s1 row1 st1 m1), iD (crsT s2 row2 st2 m2), iD dd, iD (crsD A.C_Course s1 t1 p1 r1), iD (crsD A.C_Course s2 t2 p2 r2), iD (crsD A.C_Course (s1 + 1) t3 p3 r3), iD (.tup [intsD t1, .int p1, intsD t2, .int p2]), v10]) ?_ ?_
    · walk_at "dx"
      refine ⟨s1, t1, p1, r1, rfl, fun lx => ?_⟩
      walk_at "dx"
      refine ⟨s1, t1, p1, r1, rfl, ?_⟩
      walk_at "dx"
      refine ⟨s2, t2, p2, r2, rfl, fun ly => ?_⟩
      walk_at "dx"
      refine ⟨s2, t2, p2, r2, rfl, ?_⟩
      walk_at "dx"
      rfl
    rintro e rfl
    walk_at "dx"
    refine ⟨fun _ e => ∃ v10 : Option Ent, e = [iD (.fls (ns.map D.int)), iI cell, some (.own l (.lst [.int n3])), iD (crsT s1 row1 st1 m1), iD (crsT s2 row2 st2 m2), iD dd, iD (crsD A.C_Course s1 t1 p1 r1), iD (crsD A.C_Course s2 t2 p2 r2), iD (crsD A.C_Course (s1 + 1) t3 p3 r3), iD (.tup [intsD t1, .int p1, intsD t2, .int p2]), v10], ⟨_, rfl⟩, ?_, ?_⟩
    · rintro j c e hc ⟨v10, rfl⟩
      walk_at "dx"
      refine ⟨s1, t1, p1, r1, s2, t2, p2, r2, rfl, d1, d2, fun d hd => ?_⟩
      obtain rfl := u1 d hd
      walk_at "dx"
      refine ⟨_, rfl, hdd.ok, ?_⟩
      walk_at "dx"
      refine ⟨s2, t2, p2, r2, s1, t1, p1, r1, rfl, d2, d1, fun d' hd' => ?_⟩
      obtain rfl := u1 d' hd'.symm
      walk_at "dx"
      refine ⟨_, rfl, hdd.ok, ?_⟩
      walk_at "dx"
      refine ⟨s1, t1, p1, r1, s1 + 1, t3, p3, r3, rfl, d1, d3, fun d hd => ?_⟩
      obtain rfl := hd.one (.start (by omega))
      rw [if_neg (by omega)]
      walk_at "dx"
      refine ⟨_, rfl, rfl, ?_⟩
      walk_at "dx"
      refine ⟨s1, t1, p1, r1, s1, t1, p1, r1, rfl, d1, d1, fun d hd => ?_⟩
      obtain rfl := hd.one (.no rfl fun _ => rfl)
      walk_at "dx"
      exact ⟨_, rfl⟩
    rintro e ⟨v10, rfl⟩
    walk_at "dx"
    refine ⟨s1, t1, p1, r1, rfl, fun lx => ?_⟩
    walk_at "dx"
    refine ⟨s1, t1, p1, r1, rfl, ?_⟩
    walk_at "dx"
    refine ⟨s2, t2, p2, r2, rfl, fun ly => ?_⟩
    walk_at "dx"
    refine ⟨s2, t2, p2, r2, rfl, ?_⟩
    walk_at "dx"
    refine ⟨_, rfl, by simp only [okS, okSs, List.length_map, List.length_cons, List.length_nil, okSs_ints, Bool.and_true, Bool.true_and]; simp; omega, ?_⟩
    walk_at "dx"
    have heq : decide (s1 = s2 ∧ t1 = t2 ∧ p1 = p2 ∧ r1 = r2) = isNon dd := by
      rw [Bool.eq_iff_iff, decide_eq_true_iff, hdd.non]
      constructor
      · rintro ⟨e1, e2, e3, e4⟩
        subst e2 e3 e4
        exact ⟨e1, fun k => by rw [cn1.val, cn2.val]⟩
      · rintro ⟨e1, e2⟩
        obtain ⟨x1, x2, x3⟩ := cn1.one (show Canon t2 p2 r2 _ by rw [show cval row1 st1.toNat m1 = cval row2 st2.toNat m2 from funext e2]; exact cn2)
        exact ⟨e1, x1, x2, x3⟩
    have heq2 : decide (s2 = s1 ∧ t2 = t1 ∧ p2 = p1 ∧ r2 = r1) = isNon dd := by
      rw [← heq, Bool.eq_iff_iff, decide_eq_true_iff, decide_eq_true_iff]
      exact ⟨fun ⟨a, b, c, d⟩ => ⟨a.symm, b.symm, c.symm, d.symm⟩, fun ⟨a, b, c, d⟩ => ⟨a.symm, b.symm, c.symm, d.symm⟩⟩
    refine ⟨s1, t1, p1, r1, _, rfl, .inl ⟨s2, t2, p2, r2, rfl, by omega, by omega, ?_⟩⟩
    rw [heq]
    walk_at "dx"
    refine ⟨s2, t2, p2, r2, _, rfl, .inl ⟨s1, t1, p1, r1, rfl, by omega, by omega, ?_⟩⟩
    rw [heq2]
    walk_at "dx"
    refine ⟨_, rfl, rfl, ?_⟩
    walk_at "dx"
    exact ⟨_, _, _, _, _, _, _, _, _, _, rfl⟩
  · rintro e ⟨v1, v2, v3, v4, v5, v6, v7, v8, v9, v10, rfl⟩
    walk_at "dx"
    exact hP
theorem ok_law (T : Txt K mg A) : FnOk P w K mg base CX0 11 A.f_law A.d_law P_law (spLaw K) := FnOk.calm (okd_law T) law_of
end

end
/-! ### what the top has written -/
theorem exm_ok {K : PySem.W.Frag} {S : Addr} (h1 : PySem.W.subIn K (.ref S) (.type "BaseException") = some true) (h2 : PySem.W.isClsIn K S = true) (h3 : PySem.W.typeIn K (.ref S) = some (.type "type"))
    (h4 : PySem.W.subIn K (.ref S) (.ref S) = some true) : PySem.W.exmOne K (.ref S) (.ref S) = some true := by
  have h5 : (PySem.W.clsIn K S).isSome = true := h2
  unfold PySem.W.exmOne PySem.W.kitCls
  rw [h1, if_pos (beq_self_eq_true _)]
  show (if ((PySem.W.clsIn K S).isSome && PySem.W.typeIn K (.ref S) == some (.type "type")) = true then PySem.W.subIn K (.ref S) (.ref S) else none) = some true
  rw [h5, h3, h4]
  rfl
theorem exm_no {K : PySem.W.Frag} {S R : Addr} (h1 : PySem.W.subIn K (.ref S) (.type "BaseException") = some true) (h2 : PySem.W.isClsIn K S = true) (h3 : PySem.W.typeIn K (.ref S) = some (.type "type"))
    (h4 : PySem.W.subIn K (.ref R) (.ref S) = some false) : PySem.W.exmOne K (.ref R) (.ref S) = some false := by
  have h5 : (PySem.W.clsIn K S).isSome = true := h2
  unfold PySem.W.exmOne PySem.W.kitCls
  rw [h1, if_pos (beq_self_eq_true _)]
  show (if ((PySem.W.clsIn K S).isSome && PySem.W.typeIn K (.ref S) == some (.type "type")) = true then PySem.W.subIn K (.ref R) (.ref S) else none) = some false
  rw [h5, h3, h4]
  rfl
theorem exm_yes {K : PySem.W.Frag} {S R : Addr} (h1 : PySem.W.subIn K (.ref S) (.type "BaseException") = some true) (h2 : PySem.W.isClsIn K S = true) (h3 : PySem.W.typeIn K (.ref S) = some (.type "type"))
    (h4 : PySem.W.subIn K (.ref R) (.ref S) = some true) : PySem.W.exmOne K (.ref R) (.ref S) = some true := by
  have h5 : (PySem.W.clsIn K S).isSome = true := h2
  unfold PySem.W.exmOne PySem.W.kitCls
  rw [h1, if_pos (beq_self_eq_true _)]
  show (if ((PySem.W.clsIn K S).isSome && PySem.W.typeIn K (.ref S) == some (.type "type")) = true then PySem.W.subIn K (.ref R) (.ref S) else none) = some true
  rw [h5, h3, h4]
  rfl
theorem all_mk {l : PySem.W.OpenLaw} {w : World} {K : PySem.W.Frag} {h : Heap} {mg : Str → Option Value} {fa : Addr} (X : K.In h) (G : h.Ns mainGlobals mg) (hfa : mg "law" = some (.ref fa))
    {S : Addr}
    {C_InvalidSize : Addr}
    {C_InvalidNumber : Addr}
    {C_NoLength : Addr}
    {C_Course : Addr}
    {f_SandError___init__ : Addr} {od_SandError___init__ an_SandError___init__ : Option Addr} {sl_SandError___init__ : Array (Option Value)} {oc_SandError___init__ kV_SandError___init__ dc_SandError___init__ pm_SandError___init__ cd_SandError___init__ ct_SandError___init__ : Value}
    {f_greatest_divisor : Addr} {od_greatest_divisor an_greatest_divisor : Option Addr} {sl_greatest_divisor : Array (Option Value)} {oc_greatest_divisor kV_greatest_divisor dc_greatest_divisor pm_greatest_divisor cd_greatest_divisor ct_greatest_divisor : Value}
    {f_tail_number : Addr} {od_tail_number an_tail_number : Option Addr} {sl_tail_number : Array (Option Value)} {oc_tail_number kV_tail_number dc_tail_number pm_tail_number cd_tail_number ct_tail_number : Value}
    {f_least_every : Addr} {od_least_every an_least_every : Option Addr} {sl_least_every : Array (Option Value)} {oc_least_every kV_least_every dc_least_every pm_least_every cd_least_every ct_least_every : Value}
    {f_fewest_numbers : Addr} {od_fewest_numbers an_fewest_numbers : Option Addr} {sl_fewest_numbers : Array (Option Value)} {oc_fewest_numbers kV_fewest_numbers dc_fewest_numbers pm_fewest_numbers cd_fewest_numbers ct_fewest_numbers : Value}
    {f_Course___init__ : Addr} {od_Course___init__ an_Course___init__ : Option Addr} {sl_Course___init__ : Array (Option Value)} {oc_Course___init__ kV_Course___init__ dc_Course___init__ pm_Course___init__ cd_Course___init__ ct_Course___init__ : Value}
    {f_Course_least : Addr} {od_Course_least an_Course_least : Option Addr} {sl_Course_least : Array (Option Value)} {oc_Course_least kV_Course_least dc_Course_least pm_Course_least cd_Course_least ct_Course_least : Value}
    {f_Course_numbers : Addr} {od_Course_numbers an_Course_numbers : Option Addr} {sl_Course_numbers : Array (Option Value)} {oc_Course_numbers kV_Course_numbers dc_Course_numbers pm_Course_numbers cd_Course_numbers ct_Course_numbers : Value}
    {f_Course_every : Addr} {od_Course_every an_Course_every : Option Addr} {sl_Course_every : Array (Option Value)} {oc_Course_every kV_Course_every dc_Course_every pm_Course_every cd_Course_every ct_Course_every : Value}
    {f_Course_at : Addr} {od_Course_at an_Course_at : Option Addr} {sl_Course_at : Array (Option Value)} {oc_Course_at kV_Course_at dc_Course_at pm_Course_at cd_Course_at ct_Course_at : Value}
    {f_Course_first_unlike : Addr} {od_Course_first_unlike an_Course_first_unlike : Option Addr} {sl_Course_first_unlike : Array (Option Value)} {oc_Course_first_unlike kV_Course_first_unlike dc_Course_first_unlike pm_Course_first_unlike cd_Course_first_unlike ct_Course_first_unlike : Value}
    {f_Course___eq__ : Addr} {od_Course___eq__ an_Course___eq__ : Option Addr} {sl_Course___eq__ : Array (Option Value)} {oc_Course___eq__ kV_Course___eq__ dc_Course___eq__ pm_Course___eq__ cd_Course___eq__ ct_Course___eq__ : Value}
    {f__law_well : Addr} {od__law_well an__law_well : Option Addr} {sl__law_well : Array (Option Value)} {oc__law_well kV__law_well dc__law_well pm__law_well cd__law_well ct__law_well : Value}
    {f__law_pick : Addr} {od__law_pick an__law_pick : Option Addr} {sl__law_pick : Array (Option Value)} {oc__law_pick kV__law_pick dc__law_pick pm__law_pick cd__law_pick ct__law_pick : Value}
    {f__law_same : Addr} {od__law_same an__law_same : Option Addr} {sl__law_same : Array (Option Value)} {oc__law_same kV__law_same dc__law_same pm__law_same cd__law_same ct__law_same : Value}
    {f__law_course : Addr} {od__law_course an__law_course : Option Addr} {sl__law_course : Array (Option Value)} {oc__law_course kV__law_course dc__law_course pm__law_course cd__law_course ct__law_course : Value}
    {f__law_value : Addr} {od__law_value an__law_value : Option Addr} {sl__law_value : Array (Option Value)} {oc__law_value kV__law_value dc__law_value pm__law_value cd__law_value ct__law_value : Value}
    {f__law_partner : Addr} {od__law_partner an__law_partner : Option Addr} {sl__law_partner : Array (Option Value)} {oc__law_partner kV__law_partner dc__law_partner pm__law_partner cd__law_partner ct__law_partner : Value}
    {f__law_unlike : Addr} {od__law_unlike an__law_unlike : Option Addr} {sl__law_unlike : Array (Option Value)} {oc__law_unlike kV__law_unlike dc__law_unlike pm__law_unlike cd__law_unlike ct__law_unlike : Value}
    {f_law : Addr} {od_law an_law : Option Addr} {sl_law : Array (Option Value)} {oc_law kV_law dc_law pm_law cd_law ct_law : Value}
    {nm_InvalidSize q_InvalidSize : Str} {N_InvalidSize : Addr} {bs_InvalidSize : List Value} {sn_InvalidSize : List Str} {sub_InvalidSize : List Value} {ab_InvalidSize : Bool} {col_InvalidSize : Option Bool} {dd_InvalidSize : Option Addr} {m0_InvalidSize m1_InvalidSize m2_InvalidSize m3_InvalidSize m5_InvalidSize : Option Value}
    {nm_InvalidNumber q_InvalidNumber : Str} {N_InvalidNumber : Addr} {bs_InvalidNumber : List Value} {sn_InvalidNumber : List Str} {sub_InvalidNumber : List Value} {ab_InvalidNumber : Bool} {col_InvalidNumber : Option Bool} {dd_InvalidNumber : Option Addr} {m0_InvalidNumber m1_InvalidNumber m2_InvalidNumber m3_InvalidNumber m5_InvalidNumber : Option Value}
    {nm_NoLength q_NoLength : Str} {N_NoLength : Addr} {bs_NoLength : List Value} {sn_NoLength : List Str} {sub_NoLength : List Value} {ab_NoLength : Bool} {col_NoLength : Option Bool} {dd_NoLength : Option Addr} {m0_NoLength m1_NoLength m2_NoLength m3_NoLength m5_NoLength : Option Value}
    {p_Course_least : Addr} {rest_Course_least : List Value}
    {p_Course_numbers : Addr} {rest_Course_numbers : List Value}
    {p_Course_every : Addr} {rest_Course_every : List Value}
    (aC_InvalidSize : PySem.W.nsIn K mainGlobals "InvalidSize" = some (some (.ref C_InvalidSize)))
    (aC_InvalidNumber : PySem.W.nsIn K mainGlobals "InvalidNumber" = some (some (.ref C_InvalidNumber)))
    (aC_NoLength : PySem.W.nsIn K mainGlobals "NoLength" = some (some (.ref C_NoLength)))
    (aC_Course : PySem.W.nsIn K mainGlobals "Course" = some (some (.ref C_Course)))
    (xL_InvalidSize : K.lookup C_InvalidSize = some (excClassObj nm_InvalidSize q_InvalidSize C_InvalidSize N_InvalidSize bs_InvalidSize [.ref S, .type "ValueError", .type "Exception", .type "BaseException", .type "object"] true sn_InvalidSize sub_InvalidSize ab_InvalidSize col_InvalidSize dd_InvalidSize m0_InvalidSize m1_InvalidSize m2_InvalidSize m3_InvalidSize m5_InvalidSize "ValueError.__new__"))
    (sa_InvalidSize : PySem.W.findIn K (.ref C_InvalidSize) "__setattr__" = some (some (.builtin "object.__setattr__")))
    (ga_InvalidSize : PySem.W.findIn K (.ref C_InvalidSize) "__getattribute__" = some (some (.builtin "BaseException.__getattribute__")))
    (gg_InvalidSize : PySem.W.findIn K (.ref C_InvalidSize) "__getattr__" = some none)
    (nv_InvalidSize : PySem.W.findIn K (.ref C_InvalidSize) "value" = some none)
    (iI_InvalidSize : PySem.W.findIn K (.ref C_InvalidSize) "__init__" = some (some (.ref f_SandError___init__)))
    (kC_InvalidSize : PySem.W.keepIn K (.ref C_InvalidSize) = true)
    (eC_InvalidSize : PySem.W.subIn K (.ref C_InvalidSize) (.type "BaseException") = some true)
    (tC_InvalidSize : PySem.W.typeIn K (.ref C_InvalidSize) = some (.type "type"))
    (hC_InvalidSize : PySem.W.hasDictIn K C_InvalidSize = true)
    (zC_InvalidSize : PySem.W.isClsIn K C_InvalidSize = true)
    (sC_InvalidSize : PySem.W.subIn K (.ref C_InvalidSize) (.ref C_InvalidSize) = some true)
    (xL_InvalidNumber : K.lookup C_InvalidNumber = some (excClassObj nm_InvalidNumber q_InvalidNumber C_InvalidNumber N_InvalidNumber bs_InvalidNumber [.ref S, .type "ValueError", .type "Exception", .type "BaseException", .type "object"] true sn_InvalidNumber sub_InvalidNumber ab_InvalidNumber col_InvalidNumber dd_InvalidNumber m0_InvalidNumber m1_InvalidNumber m2_InvalidNumber m3_InvalidNumber m5_InvalidNumber "ValueError.__new__"))
    (sa_InvalidNumber : PySem.W.findIn K (.ref C_InvalidNumber) "__setattr__" = some (some (.builtin "object.__setattr__")))
    (ga_InvalidNumber : PySem.W.findIn K (.ref C_InvalidNumber) "__getattribute__" = some (some (.builtin "BaseException.__getattribute__")))
    (gg_InvalidNumber : PySem.W.findIn K (.ref C_InvalidNumber) "__getattr__" = some none)
    (nv_InvalidNumber : PySem.W.findIn K (.ref C_InvalidNumber) "value" = some none)
    (iI_InvalidNumber : PySem.W.findIn K (.ref C_InvalidNumber) "__init__" = some (some (.ref f_SandError___init__)))
    (kC_InvalidNumber : PySem.W.keepIn K (.ref C_InvalidNumber) = true)
    (eC_InvalidNumber : PySem.W.subIn K (.ref C_InvalidNumber) (.type "BaseException") = some true)
    (tC_InvalidNumber : PySem.W.typeIn K (.ref C_InvalidNumber) = some (.type "type"))
    (hC_InvalidNumber : PySem.W.hasDictIn K C_InvalidNumber = true)
    (zC_InvalidNumber : PySem.W.isClsIn K C_InvalidNumber = true)
    (sC_InvalidNumber : PySem.W.subIn K (.ref C_InvalidNumber) (.ref C_InvalidNumber) = some true)
    (xL_NoLength : K.lookup C_NoLength = some (excClassObj nm_NoLength q_NoLength C_NoLength N_NoLength bs_NoLength [.ref S, .type "ValueError", .type "Exception", .type "BaseException", .type "object"] true sn_NoLength sub_NoLength ab_NoLength col_NoLength dd_NoLength m0_NoLength m1_NoLength m2_NoLength m3_NoLength m5_NoLength "ValueError.__new__"))
    (sa_NoLength : PySem.W.findIn K (.ref C_NoLength) "__setattr__" = some (some (.builtin "object.__setattr__")))
    (ga_NoLength : PySem.W.findIn K (.ref C_NoLength) "__getattribute__" = some (some (.builtin "BaseException.__getattribute__")))
    (gg_NoLength : PySem.W.findIn K (.ref C_NoLength) "__getattr__" = some none)
    (nv_NoLength : PySem.W.findIn K (.ref C_NoLength) "value" = some none)
    (iI_NoLength : PySem.W.findIn K (.ref C_NoLength) "__init__" = some (some (.ref f_SandError___init__)))
    (kC_NoLength : PySem.W.keepIn K (.ref C_NoLength) = true)
    (eC_NoLength : PySem.W.subIn K (.ref C_NoLength) (.type "BaseException") = some true)
    (tC_NoLength : PySem.W.typeIn K (.ref C_NoLength) = some (.type "type"))
    (hC_NoLength : PySem.W.hasDictIn K C_NoLength = true)
    (zC_NoLength : PySem.W.isClsIn K C_NoLength = true)
    (sC_NoLength : PySem.W.subIn K (.ref C_NoLength) (.ref C_NoLength) = some true)
    (tI : PySem.W.typeIn K (.ref f_SandError___init__) = some (.type "function"))
    (l_SandError___init__ : K.lookup f_SandError___init__ = some ⟨oc_SandError___init__, od_SandError___init__, .func (PySem.W.fnOf "__init__" "SandError.__init__" (defArgs s_SandError___init__) (defBody s_SandError___init__) (defScope s_SandError___init__) .none kV_SandError___init__ dc_SandError___init__ pm_SandError___init__ an_SandError___init__ cd_SandError___init__ ct_SandError___init__), sl_SandError___init__⟩)
    (c_SandError___init__ : PySem.W.codeIn K cd_SandError___init__ "SandError.__init__" = true)
    (k_SandError___init__ : PySem.W.keepIn K (.ref f_SandError___init__) = true)
    (a_greatest_divisor : PySem.W.nsIn K mainGlobals "greatest_divisor" = some (some (.ref f_greatest_divisor)))
    (l_greatest_divisor : K.lookup f_greatest_divisor = some ⟨oc_greatest_divisor, od_greatest_divisor, .func (PySem.W.fnOf "greatest_divisor" "greatest_divisor" (defArgs s_greatest_divisor) (defBody s_greatest_divisor) (defScope s_greatest_divisor) .none kV_greatest_divisor dc_greatest_divisor pm_greatest_divisor an_greatest_divisor cd_greatest_divisor ct_greatest_divisor), sl_greatest_divisor⟩)
    (c_greatest_divisor : PySem.W.codeIn K cd_greatest_divisor "greatest_divisor" = true)
    (k_greatest_divisor : PySem.W.keepIn K (.ref f_greatest_divisor) = true)
    (a_tail_number : PySem.W.nsIn K mainGlobals "tail_number" = some (some (.ref f_tail_number)))
    (l_tail_number : K.lookup f_tail_number = some ⟨oc_tail_number, od_tail_number, .func (PySem.W.fnOf "tail_number" "tail_number" (defArgs s_tail_number) (defBody s_tail_number) (defScope s_tail_number) .none kV_tail_number dc_tail_number pm_tail_number an_tail_number cd_tail_number ct_tail_number), sl_tail_number⟩)
    (c_tail_number : PySem.W.codeIn K cd_tail_number "tail_number" = true)
    (k_tail_number : PySem.W.keepIn K (.ref f_tail_number) = true)
    (a_least_every : PySem.W.nsIn K mainGlobals "least_every" = some (some (.ref f_least_every)))
    (l_least_every : K.lookup f_least_every = some ⟨oc_least_every, od_least_every, .func (PySem.W.fnOf "least_every" "least_every" (defArgs s_least_every) (defBody s_least_every) (defScope s_least_every) .none kV_least_every dc_least_every pm_least_every an_least_every cd_least_every ct_least_every), sl_least_every⟩)
    (c_least_every : PySem.W.codeIn K cd_least_every "least_every" = true)
    (k_least_every : PySem.W.keepIn K (.ref f_least_every) = true)
    (a_fewest_numbers : PySem.W.nsIn K mainGlobals "fewest_numbers" = some (some (.ref f_fewest_numbers)))
    (l_fewest_numbers : K.lookup f_fewest_numbers = some ⟨oc_fewest_numbers, od_fewest_numbers, .func (PySem.W.fnOf "fewest_numbers" "fewest_numbers" (defArgs s_fewest_numbers) (defBody s_fewest_numbers) (defScope s_fewest_numbers) .none kV_fewest_numbers dc_fewest_numbers pm_fewest_numbers an_fewest_numbers cd_fewest_numbers ct_fewest_numbers), sl_fewest_numbers⟩)
    (c_fewest_numbers : PySem.W.codeIn K cd_fewest_numbers "fewest_numbers" = true)
    (k_fewest_numbers : PySem.W.keepIn K (.ref f_fewest_numbers) = true)
    (a_Course___init__ : PySem.W.findIn K (.ref C_Course) "__init__" = some (some (.ref f_Course___init__)))
    (i_Course___init__ : PySem.W.isFn K (.ref f_Course___init__) = true)
    (l_Course___init__ : K.lookup f_Course___init__ = some ⟨oc_Course___init__, od_Course___init__, .func (PySem.W.fnOf "__init__" "Course.__init__" (defArgs s_Course___init__) (defBody s_Course___init__) (defScope s_Course___init__) .none kV_Course___init__ dc_Course___init__ pm_Course___init__ an_Course___init__ cd_Course___init__ ct_Course___init__), sl_Course___init__⟩)
    (c_Course___init__ : PySem.W.codeIn K cd_Course___init__ "Course.__init__" = true)
    (k_Course___init__ : PySem.W.keepIn K (.ref f_Course___init__) = true)
    (pa_Course_least : PySem.W.findIn K (.ref C_Course) "least" = some (some (.ref p_Course_least)))
    (pg_Course_least : PySem.W.specialIn K (.ref p_Course_least) "__get__" = some (some (.builtin "property.__get__")))
    (pt_Course_least : PySem.W.takesIn K (.ref p_Course_least) = some true)
    (pr_Course_least : PySem.W.recIn K p_Course_least "property" = some (.ref f_Course_least :: rest_Course_least))
    (l_Course_least : K.lookup f_Course_least = some ⟨oc_Course_least, od_Course_least, .func (PySem.W.fnOf "least" "Course.least" (defArgs s_Course_least) (defBody s_Course_least) (defScope s_Course_least) .none kV_Course_least dc_Course_least pm_Course_least an_Course_least cd_Course_least ct_Course_least), sl_Course_least⟩)
    (c_Course_least : PySem.W.codeIn K cd_Course_least "Course.least" = true)
    (k_Course_least : PySem.W.keepIn K (.ref f_Course_least) = true)
    (pa_Course_numbers : PySem.W.findIn K (.ref C_Course) "numbers" = some (some (.ref p_Course_numbers)))
    (pg_Course_numbers : PySem.W.specialIn K (.ref p_Course_numbers) "__get__" = some (some (.builtin "property.__get__")))
    (pt_Course_numbers : PySem.W.takesIn K (.ref p_Course_numbers) = some true)
    (pr_Course_numbers : PySem.W.recIn K p_Course_numbers "property" = some (.ref f_Course_numbers :: rest_Course_numbers))
    (l_Course_numbers : K.lookup f_Course_numbers = some ⟨oc_Course_numbers, od_Course_numbers, .func (PySem.W.fnOf "numbers" "Course.numbers" (defArgs s_Course_numbers) (defBody s_Course_numbers) (defScope s_Course_numbers) .none kV_Course_numbers dc_Course_numbers pm_Course_numbers an_Course_numbers cd_Course_numbers ct_Course_numbers), sl_Course_numbers⟩)
    (c_Course_numbers : PySem.W.codeIn K cd_Course_numbers "Course.numbers" = true)
    (k_Course_numbers : PySem.W.keepIn K (.ref f_Course_numbers) = true)
    (pa_Course_every : PySem.W.findIn K (.ref C_Course) "every" = some (some (.ref p_Course_every)))
    (pg_Course_every : PySem.W.specialIn K (.ref p_Course_every) "__get__" = some (some (.builtin "property.__get__")))
    (pt_Course_every : PySem.W.takesIn K (.ref p_Course_every) = some true)
    (pr_Course_every : PySem.W.recIn K p_Course_every "property" = some (.ref f_Course_every :: rest_Course_every))
    (l_Course_every : K.lookup f_Course_every = some ⟨oc_Course_every, od_Course_every, .func (PySem.W.fnOf "every" "Course.every" (defArgs s_Course_every) (defBody s_Course_every) (defScope s_Course_every) .none kV_Course_every dc_Course_every pm_Course_every an_Course_every cd_Course_every ct_Course_every), sl_Course_every⟩)
    (c_Course_every : PySem.W.codeIn K cd_Course_every "Course.every" = true)
    (k_Course_every : PySem.W.keepIn K (.ref f_Course_every) = true)
    (a_Course_at : PySem.W.findIn K (.ref C_Course) "at" = some (some (.ref f_Course_at)))
    (i_Course_at : PySem.W.isFn K (.ref f_Course_at) = true)
    (l_Course_at : K.lookup f_Course_at = some ⟨oc_Course_at, od_Course_at, .func (PySem.W.fnOf "at" "Course.at" (defArgs s_Course_at) (defBody s_Course_at) (defScope s_Course_at) .none kV_Course_at dc_Course_at pm_Course_at an_Course_at cd_Course_at ct_Course_at), sl_Course_at⟩)
    (c_Course_at : PySem.W.codeIn K cd_Course_at "Course.at" = true)
    (k_Course_at : PySem.W.keepIn K (.ref f_Course_at) = true)
    (a_Course_first_unlike : PySem.W.findIn K (.ref C_Course) "first_unlike" = some (some (.ref f_Course_first_unlike)))
    (i_Course_first_unlike : PySem.W.isFn K (.ref f_Course_first_unlike) = true)
    (l_Course_first_unlike : K.lookup f_Course_first_unlike = some ⟨oc_Course_first_unlike, od_Course_first_unlike, .func (PySem.W.fnOf "first_unlike" "Course.first_unlike" (defArgs s_Course_first_unlike) (defBody s_Course_first_unlike) (defScope s_Course_first_unlike) .none kV_Course_first_unlike dc_Course_first_unlike pm_Course_first_unlike an_Course_first_unlike cd_Course_first_unlike ct_Course_first_unlike), sl_Course_first_unlike⟩)
    (c_Course_first_unlike : PySem.W.codeIn K cd_Course_first_unlike "Course.first_unlike" = true)
    (k_Course_first_unlike : PySem.W.keepIn K (.ref f_Course_first_unlike) = true)
    (a_Course___eq__ : PySem.W.findIn K (.ref C_Course) "__eq__" = some (some (.ref f_Course___eq__)))
    (i_Course___eq__ : PySem.W.isFn K (.ref f_Course___eq__) = true)
    (l_Course___eq__ : K.lookup f_Course___eq__ = some ⟨oc_Course___eq__, od_Course___eq__, .func (PySem.W.fnOf "__eq__" "Course.__eq__" (defArgs s_Course___eq__) (defBody s_Course___eq__) (defScope s_Course___eq__) .none kV_Course___eq__ dc_Course___eq__ pm_Course___eq__ an_Course___eq__ cd_Course___eq__ ct_Course___eq__), sl_Course___eq__⟩)
    (c_Course___eq__ : PySem.W.codeIn K cd_Course___eq__ "Course.__eq__" = true)
    (k_Course___eq__ : PySem.W.keepIn K (.ref f_Course___eq__) = true)
    (a__law_well : PySem.W.nsIn K mainGlobals "_law_well" = some (some (.ref f__law_well)))
    (l__law_well : K.lookup f__law_well = some ⟨oc__law_well, od__law_well, .func (PySem.W.fnOf "_law_well" "_law_well" (defArgs s__law_well) (defBody s__law_well) (defScope s__law_well) .none kV__law_well dc__law_well pm__law_well an__law_well cd__law_well ct__law_well), sl__law_well⟩)
    (c__law_well : PySem.W.codeIn K cd__law_well "_law_well" = true)
    (k__law_well : PySem.W.keepIn K (.ref f__law_well) = true)
    (a__law_pick : PySem.W.nsIn K mainGlobals "_law_pick" = some (some (.ref f__law_pick)))
    (l__law_pick : K.lookup f__law_pick = some ⟨oc__law_pick, od__law_pick, .func (PySem.W.fnOf "_law_pick" "_law_pick" (defArgs s__law_pick) (defBody s__law_pick) (defScope s__law_pick) .none kV__law_pick dc__law_pick pm__law_pick an__law_pick cd__law_pick ct__law_pick), sl__law_pick⟩)
    (c__law_pick : PySem.W.codeIn K cd__law_pick "_law_pick" = true)
    (k__law_pick : PySem.W.keepIn K (.ref f__law_pick) = true)
    (a__law_same : PySem.W.nsIn K mainGlobals "_law_same" = some (some (.ref f__law_same)))
    (l__law_same : K.lookup f__law_same = some ⟨oc__law_same, od__law_same, .func (PySem.W.fnOf "_law_same" "_law_same" (defArgs s__law_same) (defBody s__law_same) (defScope s__law_same) .none kV__law_same dc__law_same pm__law_same an__law_same cd__law_same ct__law_same), sl__law_same⟩)
    (c__law_same : PySem.W.codeIn K cd__law_same "_law_same" = true)
    (k__law_same : PySem.W.keepIn K (.ref f__law_same) = true)
    (a__law_course : PySem.W.nsIn K mainGlobals "_law_course" = some (some (.ref f__law_course)))
    (l__law_course : K.lookup f__law_course = some ⟨oc__law_course, od__law_course, .func (PySem.W.fnOf "_law_course" "_law_course" (defArgs s__law_course) (defBody s__law_course) (defScope s__law_course) .none kV__law_course dc__law_course pm__law_course an__law_course cd__law_course ct__law_course), sl__law_course⟩)
    (c__law_course : PySem.W.codeIn K cd__law_course "_law_course" = true)
    (k__law_course : PySem.W.keepIn K (.ref f__law_course) = true)
    (a__law_value : PySem.W.nsIn K mainGlobals "_law_value" = some (some (.ref f__law_value)))
    (l__law_value : K.lookup f__law_value = some ⟨oc__law_value, od__law_value, .func (PySem.W.fnOf "_law_value" "_law_value" (defArgs s__law_value) (defBody s__law_value) (defScope s__law_value) .none kV__law_value dc__law_value pm__law_value an__law_value cd__law_value ct__law_value), sl__law_value⟩)
    (c__law_value : PySem.W.codeIn K cd__law_value "_law_value" = true)
    (k__law_value : PySem.W.keepIn K (.ref f__law_value) = true)
    (a__law_partner : PySem.W.nsIn K mainGlobals "_law_partner" = some (some (.ref f__law_partner)))
    (l__law_partner : K.lookup f__law_partner = some ⟨oc__law_partner, od__law_partner, .func (PySem.W.fnOf "_law_partner" "_law_partner" (defArgs s__law_partner) (defBody s__law_partner) (defScope s__law_partner) .none kV__law_partner dc__law_partner pm__law_partner an__law_partner cd__law_partner ct__law_partner), sl__law_partner⟩)
    (c__law_partner : PySem.W.codeIn K cd__law_partner "_law_partner" = true)
    (k__law_partner : PySem.W.keepIn K (.ref f__law_partner) = true)
    (a__law_unlike : PySem.W.nsIn K mainGlobals "_law_unlike" = some (some (.ref f__law_unlike)))
    (l__law_unlike : K.lookup f__law_unlike = some ⟨oc__law_unlike, od__law_unlike, .func (PySem.W.fnOf "_law_unlike" "_law_unlike" (defArgs s__law_unlike) (defBody s__law_unlike) (defScope s__law_unlike) .none kV__law_unlike dc__law_unlike pm__law_unlike an__law_unlike cd__law_unlike ct__law_unlike), sl__law_unlike⟩)
    (c__law_unlike : PySem.W.codeIn K cd__law_unlike "_law_unlike" = true)
    (k__law_unlike : PySem.W.keepIn K (.ref f__law_unlike) = true)
    (a_law : PySem.W.nsIn K mainGlobals "law" = some (some (.ref f_law)))
    (l_law : K.lookup f_law = some ⟨oc_law, od_law, .func (PySem.W.fnOf "law" "law" (defArgs s_law) (defBody s_law) (defScope s_law) .none kV_law dc_law pm_law an_law cd_law ct_law), sl_law⟩)
    (c_law : PySem.W.codeIn K cd_law "law" = true)
    (k_law : PySem.W.keepIn K (.ref f_law) = true)
    (pg_Course : PySem.W.plainGet K C_Course Str.empty = true)
    (hd_Course : PySem.W.hasDictIn K C_Course = true)
    (po_Course : PySem.W.plainOver K C_Course = true)
    (st_Course : PySem.W.findIn K (.ref C_Course) "__setattr__" = some (some (.builtin "object.__setattr__")))
    (mk_Course : PySem.W.makesIn K C_Course = true)
    (kc_Course : PySem.W.keepIn K (.ref C_Course) = true)
    (ne_Course : PySem.W.findIn K (.ref C_Course) "__ne__" = some (some (.builtin "object.__ne__")))
    (zc_Course : PySem.W.isClsIn K C_Course = true)
    (tc_Course : PySem.W.typeIn K (.ref C_Course) = some (.type "type"))
    (i1_Course : PySem.W.findIn K (.ref C_Course) "__class__" = some (some (.builtin "object.__class__")))
    (i2_Course : PySem.W.specialIn K (.builtin "object.__class__") "__get__" = some (some (.builtin "getset_descriptor.__get__")))
    (i3_Course : PySem.W.takesIn K (.builtin "object.__class__") = some true)
    (i4_Course : PySem.W.mroIn K C_Course (.type "object") = some true)
    (na_Course_start : PySem.W.findIn K (.ref C_Course) "start" = some none)
    (na_Course_told : PySem.W.findIn K (.ref C_Course) "told" = some none)
    (na_Course_period : PySem.W.findIn K (.ref C_Course) "period" = some none)
    (na_Course_rise : PySem.W.findIn K (.ref C_Course) "rise" = some none)
    (z_len : PySem.W.nsIn K mainGlobals "len" = some none)
    (z_int : PySem.W.nsIn K mainGlobals "int" = some none)
    (z_range : PySem.W.nsIn K mainGlobals "range" = some none)
    (z_list : PySem.W.nsIn K mainGlobals "list" = some none)
    (z_isinstance : PySem.W.nsIn K mainGlobals "isinstance" = some none)
    (z_bool : PySem.W.nsIn K mainGlobals "bool" = some none)
    (z_str : PySem.W.nsIn K mainGlobals "str" = some none)
    (z_tuple : PySem.W.nsIn K mainGlobals "tuple" = some none)
    (z_all : PySem.W.nsIn K mainGlobals "all" = some none)
    (z_max : PySem.W.nsIn K mainGlobals "max" = some none)
    (z_min : PySem.W.nsIn K mainGlobals "min" = some none) :
    ∃ fd : FuncData, (∀ (s : Shared) (v : Value), BindsTo s fd ⟨[v], []⟩ [("_law_script", v)]) ∧ ∀ base : Heap, K.In base → base.Ns mainGlobals mg → FnOk l.prog w K mg base CX0 11 fa fd ["_law_script"] (spLaw K) := by
  have e := hfa.symm.trans (PySem.W.mg_of X G a_law)
  cases e
  have F_SandError___init__ := fun_mk (st := s_SandError___init__) l_SandError___init__ c_SandError___init__ k_SandError___init__
  have b_SandError___init__ := F_SandError___init__.binds (ps := P_SandError___init__) fun _ _ _ _ _ _ us hl => match us, hl with | [_, _], _ => rfl
  have F_greatest_divisor := fun_mk (st := s_greatest_divisor) l_greatest_divisor c_greatest_divisor k_greatest_divisor
  have b_greatest_divisor := F_greatest_divisor.binds (ps := P_greatest_divisor) fun _ _ _ _ _ _ us hl => match us, hl with | [_, _], _ => rfl
  have F_tail_number := fun_mk (st := s_tail_number) l_tail_number c_tail_number k_tail_number
  have b_tail_number := F_tail_number.binds (ps := P_tail_number) fun _ _ _ _ _ _ us hl => match us, hl with | [_, _, _], _ => rfl
  have F_least_every := fun_mk (st := s_least_every) l_least_every c_least_every k_least_every
  have b_least_every := F_least_every.binds (ps := P_least_every) fun _ _ _ _ _ _ us hl => match us, hl with | [_, _], _ => rfl
  have F_fewest_numbers := fun_mk (st := s_fewest_numbers) l_fewest_numbers c_fewest_numbers k_fewest_numbers
  have b_fewest_numbers := F_fewest_numbers.binds (ps := P_fewest_numbers) fun _ _ _ _ _ _ us hl => match us, hl with | [_, _, _], _ => rfl
  have F_Course___init__ := fun_mk (st := s_Course___init__) l_Course___init__ c_Course___init__ k_Course___init__
  have b_Course___init__ := F_Course___init__.binds (ps := P_Course___init__) fun _ _ _ _ _ _ us hl => match us, hl with | [_, _, _, _, _], _ => rfl
  have F_Course_least := fun_mk (st := s_Course_least) l_Course_least c_Course_least k_Course_least
  have b_Course_least := F_Course_least.binds (ps := P_Course_least) fun _ _ _ _ _ _ us hl => match us, hl with | [_], _ => rfl
  have F_Course_numbers := fun_mk (st := s_Course_numbers) l_Course_numbers c_Course_numbers k_Course_numbers
  have b_Course_numbers := F_Course_numbers.binds (ps := P_Course_numbers) fun _ _ _ _ _ _ us hl => match us, hl with | [_], _ => rfl
  have F_Course_every := fun_mk (st := s_Course_every) l_Course_every c_Course_every k_Course_every
  have b_Course_every := F_Course_every.binds (ps := P_Course_every) fun _ _ _ _ _ _ us hl => match us, hl with | [_], _ => rfl
  have F_Course_at := fun_mk (st := s_Course_at) l_Course_at c_Course_at k_Course_at
  have b_Course_at := F_Course_at.binds (ps := P_Course_at) fun _ _ _ _ _ _ us hl => match us, hl with | [_, _], _ => rfl
  have F_Course_first_unlike := fun_mk (st := s_Course_first_unlike) l_Course_first_unlike c_Course_first_unlike k_Course_first_unlike
  have b_Course_first_unlike := F_Course_first_unlike.binds (ps := P_Course_first_unlike) fun _ _ _ _ _ _ us hl => match us, hl with | [_, _], _ => rfl
  have F_Course___eq__ := fun_mk (st := s_Course___eq__) l_Course___eq__ c_Course___eq__ k_Course___eq__
  have b_Course___eq__ := F_Course___eq__.binds (ps := P_Course___eq__) fun _ _ _ _ _ _ us hl => match us, hl with | [_, _], _ => rfl
  have F__law_well := fun_mk (st := s__law_well) l__law_well c__law_well k__law_well
  have b__law_well := F__law_well.binds (ps := P__law_well) fun _ _ _ _ _ _ us hl => match us, hl with | [_, _], _ => rfl
  have F__law_pick := fun_mk (st := s__law_pick) l__law_pick c__law_pick k__law_pick
  have b__law_pick := F__law_pick.binds (ps := P__law_pick) fun _ _ _ _ _ _ us hl => match us, hl with | [_, _], _ => rfl
  have F__law_same := fun_mk (st := s__law_same) l__law_same c__law_same k__law_same
  have b__law_same := F__law_same.binds (ps := P__law_same) fun _ _ _ _ _ _ us hl => match us, hl with | [_, _], _ => rfl
  have F__law_course := fun_mk (st := s__law_course) l__law_course c__law_course k__law_course
  have b__law_course := F__law_course.binds (ps := P__law_course) fun _ _ _ _ _ _ us hl => match us, hl with | [_, _], _ => rfl
  have F__law_value := fun_mk (st := s__law_value) l__law_value c__law_value k__law_value
  have b__law_value := F__law_value.binds (ps := P__law_value) fun _ _ _ _ _ _ us hl => match us, hl with | [_, _], _ => rfl
  have F__law_partner := fun_mk (st := s__law_partner) l__law_partner c__law_partner k__law_partner
  have b__law_partner := F__law_partner.binds (ps := P__law_partner) fun _ _ _ _ _ _ us hl => match us, hl with | [_, _], _ => rfl
  have F__law_unlike := fun_mk (st := s__law_unlike) l__law_unlike c__law_unlike k__law_unlike
  have b__law_unlike := F__law_unlike.binds (ps := P__law_unlike) fun _ _ _ _ _ _ us hl => match us, hl with | [_, _], _ => rfl
  have F_law := fun_mk (st := s_law) l_law c_law k_law
  have b_law := F_law.binds (ps := P_law) fun _ _ _ _ _ _ us hl => match us, hl with | [_], _ => rfl
  let A : Ad := {
    f_SandError___init__ := f_SandError___init__
    d_SandError___init__ := PySem.W.fnOf "__init__" "SandError.__init__" (defArgs s_SandError___init__) (defBody s_SandError___init__) (defScope s_SandError___init__) .none kV_SandError___init__ dc_SandError___init__ pm_SandError___init__ an_SandError___init__ cd_SandError___init__ ct_SandError___init__
    f_greatest_divisor := f_greatest_divisor
    d_greatest_divisor := PySem.W.fnOf "greatest_divisor" "greatest_divisor" (defArgs s_greatest_divisor) (defBody s_greatest_divisor) (defScope s_greatest_divisor) .none kV_greatest_divisor dc_greatest_divisor pm_greatest_divisor an_greatest_divisor cd_greatest_divisor ct_greatest_divisor
    f_tail_number := f_tail_number
    d_tail_number := PySem.W.fnOf "tail_number" "tail_number" (defArgs s_tail_number) (defBody s_tail_number) (defScope s_tail_number) .none kV_tail_number dc_tail_number pm_tail_number an_tail_number cd_tail_number ct_tail_number
    f_least_every := f_least_every
    d_least_every := PySem.W.fnOf "least_every" "least_every" (defArgs s_least_every) (defBody s_least_every) (defScope s_least_every) .none kV_least_every dc_least_every pm_least_every an_least_every cd_least_every ct_least_every
    f_fewest_numbers := f_fewest_numbers
    d_fewest_numbers := PySem.W.fnOf "fewest_numbers" "fewest_numbers" (defArgs s_fewest_numbers) (defBody s_fewest_numbers) (defScope s_fewest_numbers) .none kV_fewest_numbers dc_fewest_numbers pm_fewest_numbers an_fewest_numbers cd_fewest_numbers ct_fewest_numbers
    f_Course___init__ := f_Course___init__
    d_Course___init__ := PySem.W.fnOf "__init__" "Course.__init__" (defArgs s_Course___init__) (defBody s_Course___init__) (defScope s_Course___init__) .none kV_Course___init__ dc_Course___init__ pm_Course___init__ an_Course___init__ cd_Course___init__ ct_Course___init__
    f_Course_least := f_Course_least
    d_Course_least := PySem.W.fnOf "least" "Course.least" (defArgs s_Course_least) (defBody s_Course_least) (defScope s_Course_least) .none kV_Course_least dc_Course_least pm_Course_least an_Course_least cd_Course_least ct_Course_least
    f_Course_numbers := f_Course_numbers
    d_Course_numbers := PySem.W.fnOf "numbers" "Course.numbers" (defArgs s_Course_numbers) (defBody s_Course_numbers) (defScope s_Course_numbers) .none kV_Course_numbers dc_Course_numbers pm_Course_numbers an_Course_numbers cd_Course_numbers ct_Course_numbers
    f_Course_every := f_Course_every
    d_Course_every := PySem.W.fnOf "every" "Course.every" (defArgs s_Course_every) (defBody s_Course_every) (defScope s_Course_every) .none kV_Course_every dc_Course_every pm_Course_every an_Course_every cd_Course_every ct_Course_every
    f_Course_at := f_Course_at
    d_Course_at := PySem.W.fnOf "at" "Course.at" (defArgs s_Course_at) (defBody s_Course_at) (defScope s_Course_at) .none kV_Course_at dc_Course_at pm_Course_at an_Course_at cd_Course_at ct_Course_at
    f_Course_first_unlike := f_Course_first_unlike
    d_Course_first_unlike := PySem.W.fnOf "first_unlike" "Course.first_unlike" (defArgs s_Course_first_unlike) (defBody s_Course_first_unlike) (defScope s_Course_first_unlike) .none kV_Course_first_unlike dc_Course_first_unlike pm_Course_first_unlike an_Course_first_unlike cd_Course_first_unlike ct_Course_first_unlike
    f_Course___eq__ := f_Course___eq__
    d_Course___eq__ := PySem.W.fnOf "__eq__" "Course.__eq__" (defArgs s_Course___eq__) (defBody s_Course___eq__) (defScope s_Course___eq__) .none kV_Course___eq__ dc_Course___eq__ pm_Course___eq__ an_Course___eq__ cd_Course___eq__ ct_Course___eq__
    f__law_well := f__law_well
    d__law_well := PySem.W.fnOf "_law_well" "_law_well" (defArgs s__law_well) (defBody s__law_well) (defScope s__law_well) .none kV__law_well dc__law_well pm__law_well an__law_well cd__law_well ct__law_well
    f__law_pick := f__law_pick
    d__law_pick := PySem.W.fnOf "_law_pick" "_law_pick" (defArgs s__law_pick) (defBody s__law_pick) (defScope s__law_pick) .none kV__law_pick dc__law_pick pm__law_pick an__law_pick cd__law_pick ct__law_pick
    f__law_same := f__law_same
    d__law_same := PySem.W.fnOf "_law_same" "_law_same" (defArgs s__law_same) (defBody s__law_same) (defScope s__law_same) .none kV__law_same dc__law_same pm__law_same an__law_same cd__law_same ct__law_same
    f__law_course := f__law_course
    d__law_course := PySem.W.fnOf "_law_course" "_law_course" (defArgs s__law_course) (defBody s__law_course) (defScope s__law_course) .none kV__law_course dc__law_course pm__law_course an__law_course cd__law_course ct__law_course
    f__law_value := f__law_value
    d__law_value := PySem.W.fnOf "_law_value" "_law_value" (defArgs s__law_value) (defBody s__law_value) (defScope s__law_value) .none kV__law_value dc__law_value pm__law_value an__law_value cd__law_value ct__law_value
    f__law_partner := f__law_partner
    d__law_partner := PySem.W.fnOf "_law_partner" "_law_partner" (defArgs s__law_partner) (defBody s__law_partner) (defScope s__law_partner) .none kV__law_partner dc__law_partner pm__law_partner an__law_partner cd__law_partner ct__law_partner
    f__law_unlike := f__law_unlike
    d__law_unlike := PySem.W.fnOf "_law_unlike" "_law_unlike" (defArgs s__law_unlike) (defBody s__law_unlike) (defScope s__law_unlike) .none kV__law_unlike dc__law_unlike pm__law_unlike an__law_unlike cd__law_unlike ct__law_unlike
    f_law := fa
    d_law := PySem.W.fnOf "law" "law" (defArgs s_law) (defBody s_law) (defScope s_law) .none kV_law dc_law pm_law an_law cd_law ct_law
    C_InvalidSize := C_InvalidSize
    C_InvalidNumber := C_InvalidNumber
    C_NoLength := C_NoLength
    C_Course := C_Course
    C_InvalidPoint := 0
    C_InvalidMirror := 0
    C_InvalidTurn := 0
    C_Taken := 0
    C_NoMirror := 0
    C_Board := 0
    C_InvalidRow := 0
    C_InvalidSquare := 0
    C_Strip := 0
    p_Course_least := p_Course_least
    p_Course_numbers := p_Course_numbers
    p_Course_every := p_Course_every }
  have T : Txt K mg A := {
    F_SandError___init__ := F_SandError___init__, k_SandError___init__ := k_SandError___init__, b_SandError___init__ := b_SandError___init__,
    F_greatest_divisor := F_greatest_divisor, k_greatest_divisor := k_greatest_divisor, b_greatest_divisor := b_greatest_divisor,
    g_greatest_divisor := PySem.W.mg_of X G a_greatest_divisor,
    F_tail_number := F_tail_number, k_tail_number := k_tail_number, b_tail_number := b_tail_number,
    g_tail_number := PySem.W.mg_of X G a_tail_number,
    F_least_every := F_least_every, k_least_every := k_least_every, b_least_every := b_least_every,
    g_least_every := PySem.W.mg_of X G a_least_every,
    F_fewest_numbers := F_fewest_numbers, k_fewest_numbers := k_fewest_numbers, b_fewest_numbers := b_fewest_numbers,
    g_fewest_numbers := PySem.W.mg_of X G a_fewest_numbers,
    F_Course___init__ := F_Course___init__, k_Course___init__ := k_Course___init__, b_Course___init__ := b_Course___init__,
    F_Course_least := F_Course_least, k_Course_least := k_Course_least, b_Course_least := b_Course_least,
    F_Course_numbers := F_Course_numbers, k_Course_numbers := k_Course_numbers, b_Course_numbers := b_Course_numbers,
    F_Course_every := F_Course_every, k_Course_every := k_Course_every, b_Course_every := b_Course_every,
    F_Course_at := F_Course_at, k_Course_at := k_Course_at, b_Course_at := b_Course_at,
    F_Course_first_unlike := F_Course_first_unlike, k_Course_first_unlike := k_Course_first_unlike, b_Course_first_unlike := b_Course_first_unlike,
    F_Course___eq__ := F_Course___eq__, k_Course___eq__ := k_Course___eq__, b_Course___eq__ := b_Course___eq__,
    F__law_well := F__law_well, k__law_well := k__law_well, b__law_well := b__law_well,
    g__law_well := PySem.W.mg_of X G a__law_well,
    F__law_pick := F__law_pick, k__law_pick := k__law_pick, b__law_pick := b__law_pick,
    g__law_pick := PySem.W.mg_of X G a__law_pick,
    F__law_same := F__law_same, k__law_same := k__law_same, b__law_same := b__law_same,
    g__law_same := PySem.W.mg_of X G a__law_same,
    F__law_course := F__law_course, k__law_course := k__law_course, b__law_course := b__law_course,
    g__law_course := PySem.W.mg_of X G a__law_course,
    F__law_value := F__law_value, k__law_value := k__law_value, b__law_value := b__law_value,
    g__law_value := PySem.W.mg_of X G a__law_value,
    F__law_partner := F__law_partner, k__law_partner := k__law_partner, b__law_partner := b__law_partner,
    g__law_partner := PySem.W.mg_of X G a__law_partner,
    F__law_unlike := F__law_unlike, k__law_unlike := k__law_unlike, b__law_unlike := b__law_unlike,
    g__law_unlike := PySem.W.mg_of X G a__law_unlike,
    F_law := F_law, k_law := k_law, b_law := b_law,
    g_law := PySem.W.mg_of X G a_law,
    g_InvalidSize := PySem.W.mg_of X G aC_InvalidSize,
    X_InvalidSize := ⟨⟨_, _, _, _, _, _, _, _, _, _, _, _, _, _, _, xL_InvalidSize, rfl⟩, sa_InvalidSize, eC_InvalidSize, tC_InvalidSize, kC_InvalidSize⟩,
    i_InvalidSize := iI_InvalidSize,
    xf_InvalidSize := ⟨ga_InvalidSize, gg_InvalidSize, eC_InvalidSize, hC_InvalidSize⟩,
    te_InvalidSize := exm_ok eC_InvalidSize zC_InvalidSize tC_InvalidSize sC_InvalidSize,
    no_InvalidSize := nv_InvalidSize,
    g_InvalidNumber := PySem.W.mg_of X G aC_InvalidNumber,
    X_InvalidNumber := ⟨⟨_, _, _, _, _, _, _, _, _, _, _, _, _, _, _, xL_InvalidNumber, rfl⟩, sa_InvalidNumber, eC_InvalidNumber, tC_InvalidNumber, kC_InvalidNumber⟩,
    i_InvalidNumber := iI_InvalidNumber,
    xf_InvalidNumber := ⟨ga_InvalidNumber, gg_InvalidNumber, eC_InvalidNumber, hC_InvalidNumber⟩,
    te_InvalidNumber := exm_ok eC_InvalidNumber zC_InvalidNumber tC_InvalidNumber sC_InvalidNumber,
    no_InvalidNumber := nv_InvalidNumber,
    g_NoLength := PySem.W.mg_of X G aC_NoLength,
    X_NoLength := ⟨⟨_, _, _, _, _, _, _, _, _, _, _, _, _, _, _, xL_NoLength, rfl⟩, sa_NoLength, eC_NoLength, tC_NoLength, kC_NoLength⟩,
    i_NoLength := iI_NoLength,
    xf_NoLength := ⟨ga_NoLength, gg_NoLength, eC_NoLength, hC_NoLength⟩,
    te_NoLength := exm_ok eC_NoLength zC_NoLength tC_NoLength sC_NoLength,
    no_NoLength := nv_NoLength,
    kw_Course_first_unlike_other := fun s us ws _ l1 l2 => match us, ws, l1, l2 with | [_], [_], _, _ => .of_eq rfl,
    ti_init := tI,
    g_Course := PySem.W.mg_of X G aC_Course,
    M_Course := ⟨mk_Course, a_Course___init__, i_Course___init__, kc_Course⟩,
    cl_Course := ⟨pg_Course, hd_Course, po_Course, st_Course⟩,
    ne_Course := ne_Course, zc_Course := zc_Course, tc_Course := tc_Course,
    i1_Course := i1_Course,
    i2_Course := i2_Course,
    i3_Course := i3_Course,
    i4_Course := i4_Course,
    na_Course_start := na_Course_start,
    na_Course_told := na_Course_told,
    na_Course_period := na_Course_period,
    na_Course_rise := na_Course_rise,
    m_Course_at := ⟨a_Course_at, i_Course_at, k_Course_at⟩,
    m_Course_first_unlike := ⟨a_Course_first_unlike, i_Course_first_unlike, k_Course_first_unlike⟩,
    m_Course___eq__ := ⟨a_Course___eq__, i_Course___eq__, k_Course___eq__⟩,
    pr_Course_least := ⟨pa_Course_least, pg_Course_least, pt_Course_least, _, pr_Course_least⟩,
    pr_Course_numbers := ⟨pa_Course_numbers, pg_Course_numbers, pt_Course_numbers, _, pr_Course_numbers⟩,
    pr_Course_every := ⟨pa_Course_every, pg_Course_every, pt_Course_every, _, pr_Course_every⟩,
    n_len := PySem.W.mg_none_of X G z_len,
    n_int := PySem.W.mg_none_of X G z_int,
    n_range := PySem.W.mg_none_of X G z_range,
    n_list := PySem.W.mg_none_of X G z_list,
    n_isinstance := PySem.W.mg_none_of X G z_isinstance,
    n_bool := PySem.W.mg_none_of X G z_bool,
    n_str := PySem.W.mg_none_of X G z_str,
    n_tuple := PySem.W.mg_none_of X G z_tuple,
    n_all := PySem.W.mg_none_of X G z_all,
    n_max := PySem.W.mg_none_of X G z_max,
    n_min := PySem.W.mg_none_of X G z_min }
  exact ⟨A.d_law, fun s v => .of_eq rfl, fun base _ _ => ok_law T⟩
theorem walk {l : PySem.W.OpenLaw} {q : Program} {loose : List Str} {XP : (Str → Option Value) → Heap → Prop} {YP : World → Heap → Prop} {d : DefRec} {K : Params → PySem.W.Frag}
    (hn : l.most = some 63) (hdf : d.params.defaults = []) (hY : ∀ (w : World) (h : Heap), YP w h → (K w.params).In h)
    (F : ∀ (w : World) (mg : Str → Option Value) (fa : Addr) (h : Heap), (K w.params).In h → h.Ns mainGlobals mg → mg d.name = some (.ref fa) → ∃ fd : FuncData,
      (∀ (s : Shared) (u : Value), BindsTo s fd ⟨[u], []⟩ [("_law_script", u)]) ∧ ∀ base : Heap, (K w.params).In base → base.Ns mainGlobals mg → FnOk l.prog w (K w.params) mg base CX0 11 fa fd ["_law_script"] (spLaw (K w.params))) :
    PySem.W.WalkO q loose XP YP l.row.toRowW d [] (fun f vs => PySem.call f vs) :=
  L2.walk_of (n := 63) (k := 11) (x := "_law_script") (CX := fun _ => CX0) (sp := fun w => spLaw (K w.params)) hn (by decide) hdf ⟨rfl, by decide, by decide⟩ hY F (fun _ _ a ns hl _ hS => ⟨a, ns, rfl, hS, hl, fun _ => rfl⟩) fun _ _ _ _ _ z => z
end TK
open PySem PySem.W PyProof.Rows
set_option maxRecDepth 100000 in
set_option maxHeartbeats 0 in
theorem PySem.Challenge.cw_sandthreads_k52_first_unlike_lengths_holds : PySem.Challenge.rw_sandthreads_k52_first_unlike_lengths.Holds := by
  w_on; o_law; k_head; (case hw => w_witness2)
  k_fill
  refine TK.walk (l := PySem.Challenge.rw_sandthreads_k52_first_unlike_lengths) rfl rfl (fun w h Y => PySem.W.kIn_of Y) ?F
  case F =>
    intro w mg fa h KX G hmg
    refine' TK.all_mk KX G hmg ?aC_InvalidSize ?aC_InvalidNumber ?aC_NoLength ?aC_Course ?xL_InvalidSize ?sa_InvalidSize ?ga_InvalidSize ?gg_InvalidSize ?nv_InvalidSize ?iI_InvalidSize ?kC_InvalidSize ?eC_InvalidSize ?tC_InvalidSize ?hC_InvalidSize ?zC_InvalidSize ?sC_InvalidSize ?xL_InvalidNumber ?sa_InvalidNumber ?ga_InvalidNumber ?gg_InvalidNumber ?nv_InvalidNumber ?iI_InvalidNumber ?kC_InvalidNumber ?eC_InvalidNumber ?tC_InvalidNumber ?hC_InvalidNumber ?zC_InvalidNumber ?sC_InvalidNumber ?xL_NoLength ?sa_NoLength ?ga_NoLength ?gg_NoLength ?nv_NoLength ?iI_NoLength ?kC_NoLength ?eC_NoLength ?tC_NoLength ?hC_NoLength ?zC_NoLength ?sC_NoLength ?tI ?l_SandError___init__ ?c_SandError___init__ ?k_SandError___init__ ?a_greatest_divisor ?l_greatest_divisor ?c_greatest_divisor ?k_greatest_divisor ?a_tail_number ?l_tail_number ?c_tail_number ?k_tail_number ?a_least_every ?l_least_every ?c_least_every ?k_least_every ?a_fewest_numbers ?l_fewest_numbers ?c_fewest_numbers ?k_fewest_numbers ?a_Course___init__ ?i_Course___init__ ?l_Course___init__ ?c_Course___init__ ?k_Course___init__ ?pa_Course_least ?pg_Course_least ?pt_Course_least ?pr_Course_least ?l_Course_least ?c_Course_least ?k_Course_least ?pa_Course_numbers ?pg_Course_numbers ?pt_Course_numbers ?pr_Course_numbers ?l_Course_numbers ?c_Course_numbers ?k_Course_numbers ?pa_Course_every ?pg_Course_every ?pt_Course_every ?pr_Course_every ?l_Course_every ?c_Course_every ?k_Course_every ?a_Course_at ?i_Course_at ?l_Course_at ?c_Course_at ?k_Course_at ?a_Course_first_unlike ?i_Course_first_unlike ?l_Course_first_unlike ?c_Course_first_unlike ?k_Course_first_unlike ?a_Course___eq__ ?i_Course___eq__ ?l_Course___eq__ ?c_Course___eq__ ?k_Course___eq__ ?a__law_well ?l__law_well ?c__law_well ?k__law_well ?a__law_pick ?l__law_pick ?c__law_pick ?k__law_pick ?a__law_same ?l__law_same ?c__law_same ?k__law_same ?a__law_course ?l__law_course ?c__law_course ?k__law_course ?a__law_value ?l__law_value ?c__law_value ?k__law_value ?a__law_partner ?l__law_partner ?c__law_partner ?k__law_partner ?a__law_unlike ?l__law_unlike ?c__law_unlike ?k__law_unlike ?a_law ?l_law ?c_law ?k_law ?pg_Course ?hd_Course ?po_Course ?st_Course ?mk_Course ?kc_Course ?ne_Course ?zc_Course ?tc_Course ?i1_Course ?i2_Course ?i3_Course ?i4_Course ?na_Course_start ?na_Course_told ?na_Course_period ?na_Course_rise ?z_len ?z_int ?z_range ?z_list ?z_isinstance ?z_bool ?z_str ?z_tuple ?z_all ?z_max ?z_min
    (case aC_InvalidSize => k_is)
    (case aC_InvalidNumber => k_is)
    (case aC_NoLength => k_is)
    (case aC_Course => k_is)
    (case xL_InvalidSize => k_is)
    (case sa_InvalidSize => k_is)
    (case ga_InvalidSize => k_is)
    (case gg_InvalidSize => k_is)
    (case nv_InvalidSize => k_is)
    (case iI_InvalidSize => k_is)
    (case kC_InvalidSize => k_is)
    (case eC_InvalidSize => k_is)
    (case tC_InvalidSize => k_is)
    (case hC_InvalidSize => k_is)
    (case zC_InvalidSize => k_is)
    (case sC_InvalidSize => first | rfl | k_is)
    (case xL_InvalidNumber => k_is)
    (case sa_InvalidNumber => k_is)
    (case ga_InvalidNumber => k_is)
    (case gg_InvalidNumber => k_is)
    (case nv_InvalidNumber => k_is)
    (case iI_InvalidNumber => k_is)
    (case kC_InvalidNumber => k_is)
    (case eC_InvalidNumber => k_is)
    (case tC_InvalidNumber => k_is)
    (case hC_InvalidNumber => k_is)
    (case zC_InvalidNumber => k_is)
    (case sC_InvalidNumber => first | rfl | k_is)
    (case xL_NoLength => k_is)
    (case sa_NoLength => k_is)
    (case ga_NoLength => k_is)
    (case gg_NoLength => k_is)
    (case nv_NoLength => k_is)
    (case iI_NoLength => k_is)
    (case kC_NoLength => k_is)
    (case eC_NoLength => k_is)
    (case tC_NoLength => k_is)
    (case hC_NoLength => k_is)
    (case zC_NoLength => k_is)
    (case sC_NoLength => first | rfl | k_is)
    (case tI => k_is)
    (case l_SandError___init__ => k_is)
    (case c_SandError___init__ => k_is)
    (case k_SandError___init__ => k_is)
    (case a_greatest_divisor => k_is)
    (case l_greatest_divisor => k_is)
    (case c_greatest_divisor => k_is)
    (case k_greatest_divisor => k_is)
    (case a_tail_number => k_is)
    (case l_tail_number => k_is)
    (case c_tail_number => k_is)
    (case k_tail_number => k_is)
    (case a_least_every => k_is)
    (case l_least_every => k_is)
    (case c_least_every => k_is)
    (case k_least_every => k_is)
    (case a_fewest_numbers => k_is)
    (case l_fewest_numbers => k_is)
    (case c_fewest_numbers => k_is)
    (case k_fewest_numbers => k_is)
    (case a_Course___init__ => k_is)
    (case i_Course___init__ => k_is)
    (case l_Course___init__ => k_is)
    (case c_Course___init__ => k_is)
    (case k_Course___init__ => k_is)
    (case pa_Course_least => k_is)
    (case pg_Course_least => k_is)
    (case pt_Course_least => k_is)
    (case pr_Course_least => k_is)
    (case l_Course_least => k_is)
    (case c_Course_least => k_is)
    (case k_Course_least => k_is)
    (case pa_Course_numbers => k_is)
    (case pg_Course_numbers => k_is)
    (case pt_Course_numbers => k_is)
    (case pr_Course_numbers => k_is)
    (case l_Course_numbers => k_is)
    (case c_Course_numbers => k_is)
    (case k_Course_numbers => k_is)
    (case pa_Course_every => k_is)
    (case pg_Course_every => k_is)
    (case pt_Course_every => k_is)
    (case pr_Course_every => k_is)
    (case l_Course_every => k_is)
    (case c_Course_every => k_is)
    (case k_Course_every => k_is)
    (case a_Course_at => k_is)
    (case i_Course_at => k_is)
    (case l_Course_at => k_is)
    (case c_Course_at => k_is)
    (case k_Course_at => k_is)
    (case a_Course_first_unlike => k_is)
    (case i_Course_first_unlike => k_is)
    (case l_Course_first_unlike => k_is)
    (case c_Course_first_unlike => k_is)
    (case k_Course_first_unlike => k_is)
    (case a_Course___eq__ => k_is)
    (case i_Course___eq__ => k_is)
    (case l_Course___eq__ => k_is)
    (case c_Course___eq__ => k_is)
    (case k_Course___eq__ => k_is)
    (case a__law_well => k_is)
    (case l__law_well => k_is)
    (case c__law_well => k_is)
    (case k__law_well => k_is)
    (case a__law_pick => k_is)
    (case l__law_pick => k_is)
    (case c__law_pick => k_is)
    (case k__law_pick => k_is)
    (case a__law_same => k_is)
    (case l__law_same => k_is)
    (case c__law_same => k_is)
    (case k__law_same => k_is)
    (case a__law_course => k_is)
    (case l__law_course => k_is)
    (case c__law_course => k_is)
    (case k__law_course => k_is)
    (case a__law_value => k_is)
    (case l__law_value => k_is)
    (case c__law_value => k_is)
    (case k__law_value => k_is)
    (case a__law_partner => k_is)
    (case l__law_partner => k_is)
    (case c__law_partner => k_is)
    (case k__law_partner => k_is)
    (case a__law_unlike => k_is)
    (case l__law_unlike => k_is)
    (case c__law_unlike => k_is)
    (case k__law_unlike => k_is)
    (case a_law => k_is)
    (case l_law => k_is)
    (case c_law => k_is)
    (case k_law => k_is)
    (case pg_Course => k_is)
    (case hd_Course => k_is)
    (case po_Course => k_is)
    (case st_Course => k_is)
    (case mk_Course => k_is)
    (case kc_Course => k_is)
    (case ne_Course => k_is)
    (case zc_Course => k_is)
    (case tc_Course => k_is)
    (case i1_Course => k_is)
    (case i2_Course => k_is)
    (case i3_Course => k_is)
    (case i4_Course => k_is)
    (case na_Course_start => k_is)
    (case na_Course_told => k_is)
    (case na_Course_period => k_is)
    (case na_Course_rise => k_is)
    (case z_len => k_is)
    (case z_int => k_is)
    (case z_range => k_is)
    (case z_list => k_is)
    (case z_isinstance => k_is)
    (case z_bool => k_is)
    (case z_str => k_is)
    (case z_tuple => k_is)
    (case z_all => k_is)
    (case z_max => k_is)
    (case z_min => k_is)
