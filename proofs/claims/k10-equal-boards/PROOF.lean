import PyProof.Rows.All
import Wide.All
import OpenK.AllK
import Wide.FinOn
import HandS.ForMost
import HandS.ForExc
import HandS.Wide
import HandS.Deep
import HandS.More
import HandS.IsInst
import HandS.Style
import HandS.Property
import HandS.ExcInit
import HandS.ExcField
import HandS.Codes
import HandS.Sort
import HandS.TupLen
import KE.KSortTupG
import OpenK.KOps
import HandS.TryMany
import HandS.Walk
import HandS.TupAny
import HandS.NoneIn
import PyProof.IsRules
import PySem.Challenge.RW_sandthreads_k10_equal_boards
set_option Elab.async false
set_option linter.all false
set_option maxRecDepth 100000
set_option maxHeartbeats 4000000
namespace TK
open PySem PySem.Spec PyProof.Rows L2
section
variable {σ : L2.St} {H : Hp} {Q : VK} {QT : Bool → Hp → Prop} {K : PySem.W.Frag} {D : Ends}
theorem r_var {i : Nat} {v : V} (e : σ[i]? = some (some v)) (q : Q v H) : tVar i σ H Q := ⟨v, e, q⟩
theorem r_c {v : V} (q : Q v H) : tC v σ H Q := q
theorem r_op {r : R2} {ta tb : TE} (q : ta σ H fun x H1 => tb σ H1 fun y H2 => r x y H2 Q) : tOp r ta tb σ H Q := q
theorem r_un {r : V → Hp → VK → Prop} {ta : TE} (q : ta σ H fun x H1 => r x H1 Q) : tUn r ta σ H Q := q
theorem r_I0 {g : Int → Int → V} {i j : Int} (q : Q (g i j) H) : rI0 g (.int i) (.int j) H Q := ⟨i, j, rfl, rfl, q⟩
theorem r_I {C : Int → Int → Prop} {g : Int → Int → V} {i j : Int} (c : C i j) (q : Q (g i j) H) : rI C g (.int i) (.int j) H Q := ⟨i, j, rfl, rfl, c, q⟩
theorem r_U {g : Int → V} {i : Int} (q : Q (g i) H) : rU g (.int i) H Q := ⟨i, rfl, q⟩
theorem r_eq {x y : V} (s : scal x y = true) (q : Q (.bl (decide (x = y))) H) : rEq x y H Q := ⟨s, q⟩
theorem r_ne {x y : V} (s : scal x y = true) (q : Q (.bl (!decide (x = y))) H) : rNe x y H Q := ⟨s, q⟩
theorem r_test {t : TE} (q : t σ H fun x H' => ∃ k, x = .bl k ∧ QT k H') : tTest t σ H QT := q
theorem r_B {t : TE} (q : t σ H fun x H' => ∃ k, x = .bl k ∧ QT k H') : tB t σ H QT := q
theorem r_bl {b : Bool} {P : Bool → Prop} (q : P b) : ∃ k, V.bl b = .bl k ∧ P k := ⟨b, rfl, q⟩
theorem r_not {t : TT} (q : t σ H fun c H1 => QT (!c) H1) : tNot t σ H QT := q
theorem r_and {t u : TT} (q : t σ H fun c H1 => if c = true then u σ H1 QT else QT false H1) : tAnd t u σ H QT := q
theorem r_or {t u : TT} (q : t σ H fun c H1 => if c = true then QT true H1 else u σ H1 QT) : tOr t u σ H QT := q
theorem r_andV {ta tb : TE} (q : ta σ H fun x H1 => ∃ c, x = .bl c ∧ if c = true then tb σ H1 Q else Q (.bl false) H1) : tAndV ta tb σ H Q := q
theorem r_orV {ta tb : TE} (q : ta σ H fun x H1 => ∃ c, x = .bl c ∧ if c = true then Q (.bl true) H1 else tb σ H1 Q) : tOrV ta tb σ H Q := q
theorem r_notV {ta : TE} (q : ta σ H fun x H1 => ∃ c, x = .bl c ∧ Q (.bl (!c)) H1) : tNotV ta σ H Q := q
theorem r_ifE {t : TT} {ta tb : TE} (q : t σ H fun c H1 => if c = true then ta σ H1 Q else tb σ H1 Q) : tIf t ta tb σ H Q := q
theorem r_isN {ta : TE} (q : ta σ H fun x H1 => Q (.bl (decide (x = .non))) H1) : tIsN ta σ H Q := q
theorem r_notN {ta : TE} (q : ta σ H fun x H1 => Q (.bl (!decide (x = .non))) H1) : tNotN ta σ H Q := q
theorem r_nil {QA : List V → Hp → Prop} (q : QA [] H) : tNil σ H QA := q
theorem r_cons {ta : TE} {tr : TA} {QA : List V → Hp → Prop} (q : ta σ H fun x H1 => tr σ H1 fun xs H2 => QA (x :: xs) H2) : tCons ta tr σ H QA := q
theorem r_CB {r : List V → Hp → VK → Prop} {t : TA} (q : t σ H fun vs H1 => r vs H1 Q) : tCB r t σ H Q := q
theorem r_call {sp : Sp} {dvs : List V} {E : XK} {t : TA} (q : t σ H fun vs H1 => sp (vs ++ dvs) H1 Q E) : tCall sp dvs E t σ H Q := q
theorem r_callS {sp : Sp} {E : L2.St → XK} {t : TA} (q : t σ H fun vs H1 => sp vs H1 Q (E σ)) : tCallS sp E t σ H Q := q
theorem r_tup {t : TA} (q : t σ H fun xs H1 => xs.length ≤ sizeLine ∧ ∀ p, H1 p = none → Q (.ref p) (upd H1 p (.tup xs))) : tTup t σ H Q := q
theorem r_lst {t : TA} (q : t σ H fun xs H1 => xs.length ≤ sizeLine ∧ ∀ p, H1 p = none → Q (.ref p) (upd H1 p (.lst xs))) : tLst t σ H Q := q
theorem r_chain {r r' : R2} {ta tb tc : TE} (q : ta σ H fun x H1 => tb σ H1 fun y H2 => r x y H2 fun z H3 => ∃ k, z = .bl k ∧
    if k = true then tc σ H3 fun u H4 => r' y u H4 Q else Q (.bl false) H3) : tChain r r' ta tb tc σ H Q := q
/-- statements -/
theorem r_seq {t u : TS} (q : t { D with nx := u D } σ H) : tSeq t u D σ H := q
theorem r_next (q : D.nx σ H) : tNext D σ H := q
theorem r_ret {te : TE} (q : te σ H D.rt) : tRet te D σ H := q
theorem r_retN (q : D.rt .non H) : tRetN D σ H := q
theorem r_drop {te : TE} (q : te σ H fun _ H1 => D.nx σ H1) : tDrop te D σ H := q
theorem r_asg {te : TE} {g : TG} (q : te σ H fun x H1 => g x σ H1 D.nx) : tAsg te g D σ H := q
theorem r_ifS {c : TT} {t u : TS} (q : c σ H fun b H1 => if b = true then t D σ H1 else u D σ H1) : tIfS c t u D σ H := q
theorem r_brk (q : D.bk σ H) : tBreak D σ H := q
theorem r_cont (q : D.ct σ H) : tCont D σ H := q
variable {QG : L2.St → Hp → Prop}
theorem r_gN {i : Nat} {v : V} (q : QG (σ.set i (some v)) H) : gName i v σ H QG := q
theorem r_gT {n : Nat} {t : TGs} {a : Addr} {xs : List V} (s : H a = some (.tup xs)) (l : xs.length = n) (q : t xs σ H QG) : gTup K n t (.ref a) σ H QG := ⟨a, xs, rfl, SqT.of s, l, q⟩
theorem r_gC {t : TG} {u : TGs} {v : V} {r : List V} (q : t v σ H fun σ' H' => u r σ' H' QG) : gCons t u (v :: r) σ H QG := ⟨v, r, rfl, q⟩
theorem r_gZ (q : QG σ H) : gNil [] σ H QG := ⟨rfl, q⟩
theorem r_gS {to ti : TE} {t : TSet} {v : V} (q : to σ H fun o H1 => ti σ H1 fun i H2 => t o i v H2 fun H3 => QG σ H3) : gSub to ti t v σ H QG := q
theorem r_fld {ta : TE} {f : Str} (q : ta σ H fun x H1 => ∃ a C dx fs v, x = .ref a ∧ H1 a = some (.ins C dx fs) ∧ Cls K C ∧ NoAttr K C f ∧ fs.lookup f = some v ∧ Q v H1) : tFld K ta f σ H Q := q
end

/-! named readings -/
section
variable {X : Cx}
def rLen (K : PySem.W.Frag) : List V → Hp → VK → Prop := fun xs H Q => ∃ p ys, xs = [.ref p] ∧ (SqL K H p ys ∨ SqT K H p ys) ∧ Q (.int ys.length) H
theorem c_len : CallR X (.builtin "len") (TK.rLen X.K) := call_len_seq
def rLenS : List V → Hp → VK → Prop := fun xs H Q => ∃ z : Str, xs = [.str z] ∧ z.length ≤ sizeLine ∧ Q (.int z.length) H
theorem c_lenS : CallR X (.builtin "len") TK.rLenS := call_len_str
def rInt1 : List V → Hp → VK → Prop := fun xs H Q => (∃ i, xs = [.int i] ∧ Q (.int i) H) ∨ ∃ k, xs = [.bl k] ∧ Q (.int (if k then 1 else 0)) H
theorem c_int : CallR X (.type "int") rInt1 := call_int1
def rAbs : List V → Hp → VK → Prop := fun xs H Q => ∃ i, xs = [.int i] ∧ Q (.int (if i < 0 then -i else i)) H
theorem c_abs : CallR X (.builtin "abs") rAbs := call_abs
def rMax2 : List V → Hp → VK → Prop := fun xs H Q => ∃ i j, xs = [.int i, .int j] ∧ Q (.int (if j > i then j else i)) H
theorem c_max (hc : X.calm = true) : CallR X (.builtin "max") TK.rMax2 := call_max2 hc
def rMin2 : List V → Hp → VK → Prop := fun xs H Q => ∃ i j, xs = [.int i, .int j] ∧ Q (.int (if j < i then j else i)) H
theorem c_min (hc : X.calm = true) : CallR X (.builtin "min") TK.rMin2 := call_min2 hc
def rListOf (K : PySem.W.Frag) : List V → Hp → VK → Prop := fun xs H Q => ∃ p ys, xs = [.ref p] ∧ (SqL K H p ys ∨ SqT K H p ys) ∧ ∀ l, H l = none → Q (.ref l) (upd H l (.lst ys))
theorem c_list : CallR X (.type "list") (rListOf X.K) := call_list_of
def rInsert : V → List V → Hp → VK → Prop := fun x vs H Q => ∃ (l : Addr) (xs : List V) (i : Int) (y : V), x = .ref l ∧ vs = [.int i, y] ∧ H l = some (.lst xs) ∧ xs.length < sizeLine ∧ 0 ≤ i ∧ i < 2 ^ 63 ∧
    Q .non (upd H l (.lst (xs.take i.toNat ++ [y] ++ xs.drop i.toNat)))
theorem m_insert : MtR X "list.insert" rInsert := mt_insert
def rIsNo : R2 := fun x y H Q => y = .non ∧ Q (.bl (decide (x = .non))) H
theorem o_isN : OpR X (compareOp .Is) rIsNo := op_isN
def rNotNo : R2 := fun x y H Q => y = .non ∧ Q (.bl (!decide (x = .non))) H
theorem o_notN : OpR X (compareOp .IsNot) rNotNo := op_notN
def rAddS : R2 := fun x y H Q => ∃ i j : Str, x = .str i ∧ y = .str j ∧ i.length + j.length ≤ sizeLine ∧ Q (.str (i ++ j)) H
theorem o_addS : OpR X (binaryOp .Add) TK.rAddS := op_add_str
end
section
variable {σ : L2.St} {H : Hp} {Q : VK} {K : PySem.W.Frag} {D : Ends} {QG : L2.St → Hp → Prop}
theorem r_ixL {p : Addr} {xs : List V} {i : Int} {v : V} (h : H p = some (.lst xs)) (a : atI xs i = some v) (q : Q v H) : rIxL K (.ref p) (.int i) H Q := ⟨p, xs, i, v, rfl, rfl, SqL.of h, a, q⟩
theorem r_ixT {p : Addr} {xs : List V} {i : Int} {v : V} (h : H p = some (.tup xs)) (a : atI xs i = some v) (q : Q v H) : rIxT K (.ref p) (.int i) H Q := ⟨p, xs, i, v, rfl, rfl, SqT.of h, a, q⟩
theorem r_setL {p : Addr} {xs : List V} {k : Int} {j : Nat} {v : V} {QH : Hp → Prop} (h : H p = some (.lst xs)) (e : ixN xs.length k = some j) (q : QH (upd H p (.lst (xs.set j v)))) : rSetL (.ref p) (.int k) v H QH := ⟨p, xs, k, j, rfl, rfl, h, e, q⟩
theorem r_len {p : Addr} {xs : List V} (h : H p = some (.lst xs)) (q : Q (.int xs.length) H) : TK.rLen K [.ref p] H Q := ⟨p, xs, rfl, .inl (SqL.of h), q⟩
theorem r_lenT {p : Addr} {xs : List V} (h : H p = some (.tup xs)) (q : Q (.int xs.length) H) : TK.rLen K [.ref p] H Q := ⟨p, xs, rfl, .inr (SqT.of h), q⟩
theorem r_int1 {i : Int} (q : Q (.int i) H) : rInt1 [.int i] H Q := .inl ⟨i, rfl, q⟩
theorem r_abs {i : Int} (q : Q (.int (if i < 0 then -i else i)) H) : rAbs [.int i] H Q := ⟨i, rfl, q⟩
theorem r_max {i j : Int} (q : Q (.int (if j > i then j else i)) H) : TK.rMax2 [.int i, .int j] H Q := ⟨i, j, rfl, q⟩
theorem r_min {i j : Int} (q : Q (.int (if j < i then j else i)) H) : TK.rMin2 [.int i, .int j] H Q := ⟨i, j, rfl, q⟩
theorem r_listOf {p : Addr} {xs : List V} (h : H p = some (.lst xs)) (q : ∀ l, H l = none → Q (.ref l) (upd H l (.lst xs))) : rListOf K [.ref p] H Q := ⟨p, xs, rfl, .inl (SqL.of h), q⟩
theorem r_isNo {x : V} (q : Q (.bl (decide (x = .non))) H) : rIsNo x .non H Q := ⟨rfl, q⟩
theorem r_notNo {x : V} (q : Q (.bl (!decide (x = .non))) H) : rNotNo x .non H Q := ⟨rfl, q⟩
theorem r_bm {T : String} {r : V → List V → Hp → VK → Prop} {to : TE} {t : TA} (q : to σ H fun x H1 => tyV K T x H1 ∧ t σ H1 fun xs H2 => r x xs H2 Q) : tBM K T r to t σ H Q := q
theorem r_bm0 {T : String} {r : V → List V → Hp → VK → Prop} {to : TE} (q : to σ H fun x H1 => tyV K T x H1 ∧ r x [] H1 Q) : tBM0 K T r to σ H Q := q
theorem r_tyL {p : Addr} {xs : List V} {R : Prop} (h : H p = some (.lst xs)) (q : R) : tyV K "list" (.ref p) H ∧ R := ⟨.inl ⟨rfl, _, SqL.of h⟩, q⟩
theorem r_append {l : Addr} {xs : List V} {y : V} (h : H l = some (.lst xs)) (z : xs.length < sizeLine) (q : Q .non (upd H l (.lst (xs ++ [y])))) : rAppend (.ref l) [y] H Q := ⟨l, xs, y, rfl, rfl, h, z, q⟩
theorem r_insert {l : Addr} {xs : List V} {i : Int} {y : V} (h : H l = some (.lst xs)) (z : xs.length < sizeLine) (h0 : 0 ≤ i) (h1 : i < 2 ^ 63) (q : Q .non (upd H l (.lst (xs.take i.toNat ++ [y] ++ xs.drop i.toNat)))) : rInsert (.ref l) [.int i, y] H Q := ⟨l, xs, i, y, rfl, rfl, h, z, h0, h1, q⟩
theorem r_tupN {xs : List V} {R : Addr → Hp → Prop} (l : xs.length ≤ 1000) (q : ∀ p, H p = none → R p (upd H p (.tup xs))) : xs.length ≤ sizeLine ∧ ∀ p, H p = none → R p (upd H p (.tup xs)) := ⟨Nat.le_trans l (by decide), q⟩
theorem r_sz {n : Nat} {B : Prop} (l : n ≤ 1000) (q : B) : n ≤ sizeLine ∧ B := ⟨Nat.le_trans l (by decide), q⟩
theorem r_ret1 {te : TE} (q : te σ H D.rt) : tRet te D σ H := q
theorem r_ite {c : Prop} [Decidable c] {A B : Prop} (h1 : c → A) (h2 : ¬ c → B) : if decide c = true then A else B := by
  by_cases h : c
  · rw [if_pos (decide_eq_true h)]; exact h1 h
  · rw [if_neg (by simpa using h)]; exact h2 h
theorem r_iteN {c : Prop} [Decidable c] {A B : Prop} (h1 : ¬ c → A) (h2 : c → B) : if (!decide c) = true then A else B := by
  by_cases h : c
  · rw [if_neg (by simpa using h)]; exact h2 h
  · rw [if_pos (by simpa using h)]; exact h1 h
theorem r_iteNB {b : Bool} {A B : Prop} (h1 : b = false → A) (h2 : b = true → B) : if (!b) = true then A else B := by
  cases b
  · exact h1 rfl
  · exact h2 rfl
theorem r_iteVT {x y : V} {A B : Prop} (h : x = y) (q : A) : if decide (x = y) = true then A else B := by
  rw [if_pos (decide_eq_true h)]; exact q
theorem r_iteVF {x y : V} {A B : Prop} (h : x ≠ y) (q : B) : if decide (x = y) = true then A else B := by
  rw [if_neg (by simpa using h)]; exact q
theorem r_iteNf {A B : Prop} (q : A) : if (!false) = true then A else B := q
theorem r_iteNt {A B : Prop} (q : B) : if (!true) = true then A else B := q
theorem r_iteB {b : Bool} {A B : Prop} (h1 : b = true → A) (h2 : b = false → B) : if b = true then A else B := by
  cases b
  · exact h2 rfl
  · exact h1 rfl
end
section
variable {σ : L2.St} {H H1 : Hp} {K : PySem.W.Frag} {D : Ends}
theorem r_for {wi : TI} {g : TG} {tb : TS} (q : wi σ H fun J H1 => ∃ W : Nat → Nat → L2.St → Hp → Prop, (∃ m, W 0 m σ H1) ∧ ∀ i m σ H, W i m σ H →
  (J.stop i H ∧ D.nx σ H) ∨ (J.go i H ∧ ∃ N : L2.St → Hp → Prop, (∀ σ' H', N σ' H' → ∃ m', m' < m ∧ W (i + 1) m' σ' H') ∧ ∀ x H', J.yld i H x H' → g x σ H' fun σ2 H2 => tb { D with nx := N, ct := N, bk := D.nx } σ2 H2)) : tFor wi g tb D σ H := q
theorem r_rng1 {ta : TA} {R : It → Hp → Prop} (q : ta σ H fun vs H1 => ∃ j : Int, vs = [.int j] ∧ -(2 ^ 62) ≤ j ∧ j < 2 ^ 62 ∧ R (Itr 0 j.toNat) H1) : iRng1 ta σ H R := q
theorem r_rng2 {ta : TA} {R : It → Hp → Prop} (q : ta σ H fun vs H1 => ∃ i j : Int, vs = [.int i, .int j] ∧ (-(2 ^ 62) ≤ i ∧ i < 2 ^ 62 ∧ -(2 ^ 62) ≤ j ∧ j < 2 ^ 62) ∧ R (Itr i (j - i).toNat) H1) : iRng2 ta σ H R := q
theorem r_rng3 {ta : TA} {R : It → Hp → Prop} (q : ta σ H fun vs H1 => ∃ (i j c : Int) (n : Nat), vs = [.int i, .int j, .int c] ∧ RgC i j c n ∧ R (Itc i c n) H1) : iRng3 ta σ H R := q
theorem r_iList {tl : TE} {R : It → Hp → Prop} (q : tl σ H fun x H1 => ∃ a, x = .ref a ∧ (∃ xs, SqL K H1 a xs) ∧ R (Itl K a) H1) : iList K tl σ H R := q
theorem r_lc {wi : TI} {g : TG} {tt : TT} {te : TE} {vs : List Nat} {Q : VK} (q : wi σ H fun J H1 => ∀ D, H1 D = none → ∃ W : Nat → Nat → Hp → Prop, (∃ m, W 0 m (upd H1 D (.lst []))) ∧ ∀ i m H, W i m H →
  (J.stop i H ∧ Q (.ref D) H) ∨ (J.go i H ∧ ∃ Nx : Hp → Prop, (∀ H', Nx H' → ∃ m', m' < m ∧ W (i + 1) m' H') ∧ ∀ x H', J.yld i H x H' → g x (wipe σ vs) H' fun σ2 H2 => wipe σ2 vs = wipe σ vs ∧ tt σ2 H2 fun b H3 =>
    if b = true then te σ2 H3 fun y H4 => ∃ acc, H4 D = some (.lst acc) ∧ acc.length < sizeLine ∧ Nx (upd H4 D (.lst (acc ++ [y]))) else Nx H3)) : tLc wi g tt te vs σ H Q := q
theorem _root_.L2.Same.new {q : Addr} {o : HO} (h : H q = none) : Same H (upd H q o) := fun a u e => by
  rw [upd_ne (ne_of_none e h)]
  exact e
theorem _root_.L2.Same.mut {H' : Hp} {p : Addr} {o : HO} (e : Same H H') (h : H p = none) : Same H (upd H' p o) := fun a u ha => by
  rw [upd_ne (ne_of_none ha h)]
  exact e a u ha
end
/-! statements joined by a word -/
abbrev tCut := @C8.tCut
theorem pss_cut {X : Cx} {st : Stmt} {rest : List Stmt} {t u : TS} (h1 : PS X st t) (h2 : PSs X rest u) : PSs X (st :: rest) (C8.tCut t u) := C8.pss_cut h1 h2
theorem r_yes {σ : L2.St} {H : Hp} {Q : Bool → Hp → Prop} (q : Q true H) : tYes σ H Q := q
/-! data -/
mutual
def okD : Nat → PyData → Bool
  | _, .none => true
  | _, .bool _ => true
  | _, .int _ => true
  | _, .str x => PyData.strOk x
  | 0, .list _ => false
  | 0, .tuple _ => false
  | n + 1, .list xs => decide (xs.length ≤ 1000000) && okDs n xs
  | n + 1, .tuple xs => decide (xs.length ≤ 1000000) && okDs n xs
  | _, .dict _ => false
def okDs : Nat → List PyData → Bool
  | _, [] => true
  | n, x :: xs => okD n x && okDs n xs
end
mutual
theorem okD_lay : ∀ (n : Nat) (d : PyData), okD n d = true → d.canLay0 = true ∧ d.depth ≤ n
  | _, .none, _ => by simp [PyData.canLay0, PyData.depth]
  | _, .bool _, _ => by simp [PyData.canLay0, PyData.depth]
  | _, .int _, _ => by simp [PyData.canLay0, PyData.depth]
  | _, .str x, h => by
    have h' : PyData.strOk x = true := by simpa [okD] using h
    simp [PyData.canLay0, PyData.depth, h']
  | 0, .list _, h => by simp [okD] at h
  | 0, .tuple _, h => by simp [okD] at h
  | n + 1, .list xs, h => by
    have := okDs_lay n xs (by rw [okD, Bool.and_eq_true] at h; exact h.2)
    simp only [PyData.canLay0, PyData.depth]
    exact ⟨this.1, by omega⟩
  | n + 1, .tuple xs, h => by
    have := okDs_lay n xs (by rw [okD, Bool.and_eq_true] at h; exact h.2)
    simp only [PyData.canLay0, PyData.depth]
    exact ⟨this.1, by omega⟩
  | _, .dict _, h => by simp [okD] at h
theorem okDs_lay : ∀ (n : Nat) (ds : List PyData), okDs n ds = true → PyData.canLayAll0 ds = true ∧ PyData.depthAll ds ≤ n
  | _, [], _ => by simp [PyData.canLayAll0, PyData.depthAll]
  | n, x :: xs, h => by
    rw [okDs, Bool.and_eq_true] at h
    have h1 := okD_lay n x h.1
    have h2 := okDs_lay n xs h.2
    simp only [PyData.canLayAll0, PyData.depthAll, Bool.and_eq_true]
    exact ⟨⟨h1.1, h2.1⟩, by omega⟩
end
theorem okD_shaped {n : Nat} {d : PyData} (h : okD n d = true) (hn : n ≤ 64) : SeqAt.shaped d = true := by
  have := okD_lay n d h
  unfold SeqAt.shaped
  rw [Bool.and_eq_true]
  exact ⟨this.1, decide_eq_true (Nat.le_trans this.2 hn)⟩
theorem okD_refl {n : Nat} {d : PyData} (h : okD n d = true) : PyData.eqv d d = true := SeqAt.eqv_refl d (okD_lay n d h).1
theorem okDs_all {n : Nat} : ∀ {ds : List PyData}, (∀ d ∈ ds, okD n d = true) → okDs n ds = true
  | [], _ => rfl
  | x :: xs, h => by
    rw [okDs, Bool.and_eq_true]
    exact ⟨h x (by simp), okDs_all fun d hd => h d (by simp [hd])⟩
section
variable {σ : L2.St} {H : Hp} {Q : VK} {QT : Bool → Hp → Prop} {K : PySem.W.Frag} {D : Ends}
theorem r_din {ty td : TE} (q : ty σ H fun y H1 => td σ H1 fun x H2 => ∃ a o, x = .ref a ∧ DGet H2 a y o ∧ Q (.bl o.isSome) H2) : tDIn ty td σ H Q := q
theorem r_dnotin {ty td : TE} (q : ty σ H fun y H1 => td σ H1 fun x H2 => ∃ a o, x = .ref a ∧ DGet H2 a y o ∧ Q (.bl (!o.isSome)) H2) : tDNotIn ty td σ H Q := q
theorem r_dget1 {td ty : TE} (q : td σ H fun x H1 => ∃ a, x = .ref a ∧ IsD H1 a ∧ ty σ H1 fun y H2 => ∃ o, DGet H2 a y o ∧ Q (o.getD .non) H2) : tDGet1 td ty σ H Q := q
theorem r_dget {td ty : TE} (q : td σ H fun x H1 => ty σ H1 fun y H2 => ∃ a v, x = .ref a ∧ DGet H2 a y (some v) ∧ Q v H2) : tDGet td ty σ H Q := q
theorem r_dput {td ty tv : TE} (q : tv σ H fun v H1 => td σ H1 fun x H2 => ty σ H2 fun y H3 => ∃ a H4, x = .ref a ∧ DPut H3 a y v H4 ∧ D.nx σ H4) : sDPut td ty tv D σ H := q
theorem r_dnew (q : ∀ p, H p = none → Q (.ref p) (upd H p (.dT []))) : tDNewT σ H Q := q
theorem r_sfld {ta tv : TE} {f : Str} (q : tv σ H fun y H1 => ta σ H1 fun x H2 => ∃ a C dx fs, x = .ref a ∧ H2 a = some (.ins C dx fs) ∧ Cls K C ∧ NoAttr K C f ∧ fs.length < 1000 ∧
    D.nx σ (upd H2 a (.ins C dx (putF f y fs)))) : sFld K ta tv f D σ H := q
theorem r_mkO {C : Addr} {sp : Sp} {dvs : List V} {ta : TA} {QX : XK} (q : ta σ H fun vs H1 => vs.length ≤ 1000 ∧ ∀ a, H1 a = none → sp (.ref a :: (vs ++ dvs)) (upd H1 a (exo a C none))
    (fun v H2 => v = .non ∧ ∃ (d : Addr) (fs : List (Str × V)), H2 a = some (exo a C (some d)) ∧ H2 d = some (exd d fs) ∧ H1 d = none ∧ QX (.ref C) (some d) (upd (del H2 a) d (.xd fs))) (fun _ _ _ => False)) : tMkO C sp dvs ta σ H QX := q
theorem r_make {C : Addr} {sp : Sp} {dvs : List V} {E : XK} {t : TA} (q : t σ H fun vs H1 => ∀ x dx, H1 x = none → H1 dx = none → dx ≠ x →
    sp (.ref x :: (vs ++ dvs)) (upd (upd H1 dx (.own x)) x (.ins C dx [])) (fun v H2 => v = .non ∧ Q (.ref x) H2) E) : tMake C sp dvs E t σ H Q := q
theorem r_meth {C : Addr} {m : Str} {sp : Sp} {dvs : List V} {E : XK} {ta : TE} {t : TA} (q : ta σ H fun x H1 => ∃ a dx fs, x = .ref a ∧ H1 a = some (.ins C dx fs) ∧ fs.lookup m = none ∧
    t σ H1 fun vs H2 => sp (x :: (vs ++ dvs)) H2 Q E) : tMeth C m sp dvs E ta t σ H Q := q
end
/-! is True, is False; isinstance -/
section
variable {X : Cx}
def rIsBool : R2 := fun x y H Q => ∃ b : Bool, y = .bl b ∧ Q (.bl (decide (x = .bl b))) H
theorem o_isBool : OpR X (compareOp .Is) rIsBool := by
  intro pins s σ H x y v u Q I rx ry h
  obtain ⟨b, rfl, q⟩ := h
  cases (show u = Value.bool b from ry)
  have fin : ∀ v' : Value, plainIs v' (.bool b) = true → (v' == Value.bool b) = decide (x = .bl b) → wpAny (model X.prog X.w) X.A (compareOp .Is v' (.bool b)) (EP X pins σ Q) X.xe s := fun v' hp e => by
    refine wpAny_is_plain hp ⟨.bl (decide (x = .bl b)), H, I, ?_, q⟩
    rw [e]
    rfl
  cases x with
  | non => cases rx; exact fin _ rfl rfl
  | bl c => cases rx; exact fin _ rfl (by cases b <;> cases c <;> rfl)
  | int i => obtain ⟨t, rfl⟩ := rx; exact fin _ rfl rfl
  | str i => obtain ⟨t, rfl⟩ := rx; exact fin _ rfl rfl
  | byt i => obtain ⟨t, rfl⟩ := rx; exact fin _ rfl rfl
  | flt i => obtain ⟨t, rfl⟩ := rx; exact fin _ rfl rfl
  | ref i => cases rx; exact fin _ rfl rfl
  | ty i => cases rx; exact fin _ rfl rfl
end
theorem r_isBool {x : V} {b : Bool} {H : Hp} {Q : VK} (q : Q (.bl (decide (x = .bl b))) H) : rIsBool x (.bl b) H Q := ⟨b, rfl, q⟩
def tyD : PyData → String
  | .none => "NoneType"
  | .bool _ => "bool"
  | .int _ => "int"
  | .str _ => "str"
  | .list _ => "list"
  | .tuple _ => "tuple"
  | .dict _ => "dict"
theorem tyD_ok {K : PySem.W.Frag} {H : Hp} {x : V} {d : PyData} (h : Dp K H x d) : TyX K H x (.type (tyD d)) := by
  cases h with
  | non => exact .base .non
  | bl b => exact .base (.bl b)
  | int i => exact .base (.int i)
  | str s => exact .base (.str s)
  | lst h _ =>
    rcases h with (h | ⟨o, h⟩) | ⟨o, its, n, h, hc, _⟩
    · exact .base (.lst h)
    · exact .base (.frz h)
    · exact .kList h hc
  | tup h _ =>
    rcases h with (h | ⟨o, h⟩) | ⟨o, its, n, h, hc, _⟩
    · exact .base (.tup h)
    · exact .fTuple h
    · exact .kTuple h hc
theorem kt_NoneType_int : kitB "NoneType" "int" = some false := by decide +kernel
theorem kt_NoneType_bool : kitB "NoneType" "bool" = some false := by decide +kernel
theorem kt_NoneType_str : kitB "NoneType" "str" = some false := by decide +kernel
theorem kt_NoneType_tuple : kitB "NoneType" "tuple" = some false := by decide +kernel
theorem kt_NoneType_list : kitB "NoneType" "list" = some false := by decide +kernel
theorem kt_NoneType_dict : kitB "NoneType" "dict" = some false := by decide +kernel
theorem kt_bool_int : kitB "bool" "int" = some true := by decide +kernel
theorem kt_bool_bool : kitB "bool" "bool" = some true := by decide +kernel
theorem kt_bool_str : kitB "bool" "str" = some false := by decide +kernel
theorem kt_bool_tuple : kitB "bool" "tuple" = some false := by decide +kernel
theorem kt_bool_list : kitB "bool" "list" = some false := by decide +kernel
theorem kt_bool_dict : kitB "bool" "dict" = some false := by decide +kernel
theorem kt_int_int : kitB "int" "int" = some true := by decide +kernel
theorem kt_int_bool : kitB "int" "bool" = some false := by decide +kernel
theorem kt_int_str : kitB "int" "str" = some false := by decide +kernel
theorem kt_int_tuple : kitB "int" "tuple" = some false := by decide +kernel
theorem kt_int_list : kitB "int" "list" = some false := by decide +kernel
theorem kt_int_dict : kitB "int" "dict" = some false := by decide +kernel
theorem kt_str_int : kitB "str" "int" = some false := by decide +kernel
theorem kt_str_bool : kitB "str" "bool" = some false := by decide +kernel
theorem kt_str_str : kitB "str" "str" = some true := by decide +kernel
theorem kt_str_tuple : kitB "str" "tuple" = some false := by decide +kernel
theorem kt_str_list : kitB "str" "list" = some false := by decide +kernel
theorem kt_str_dict : kitB "str" "dict" = some false := by decide +kernel
theorem kt_list_int : kitB "list" "int" = some false := by decide +kernel
theorem kt_list_bool : kitB "list" "bool" = some false := by decide +kernel
theorem kt_list_str : kitB "list" "str" = some false := by decide +kernel
theorem kt_list_tuple : kitB "list" "tuple" = some false := by decide +kernel
theorem kt_list_list : kitB "list" "list" = some true := by decide +kernel
theorem kt_list_dict : kitB "list" "dict" = some false := by decide +kernel
theorem kt_tuple_int : kitB "tuple" "int" = some false := by decide +kernel
theorem kt_tuple_bool : kitB "tuple" "bool" = some false := by decide +kernel
theorem kt_tuple_str : kitB "tuple" "str" = some false := by decide +kernel
theorem kt_tuple_tuple : kitB "tuple" "tuple" = some true := by decide +kernel
theorem kt_tuple_list : kitB "tuple" "list" = some false := by decide +kernel
theorem kt_tuple_dict : kitB "tuple" "dict" = some false := by decide +kernel
theorem kt_dict_int : kitB "dict" "int" = some false := by decide +kernel
theorem kt_dict_bool : kitB "dict" "bool" = some false := by decide +kernel
theorem kt_dict_str : kitB "dict" "str" = some false := by decide +kernel
theorem kt_dict_tuple : kitB "dict" "tuple" = some false := by decide +kernel
theorem kt_dict_list : kitB "dict" "list" = some false := by decide +kernel
theorem kt_dict_dict : kitB "dict" "dict" = some true := by decide +kernel
theorem r_isi {K : PySem.W.Frag} {H : Hp} {Q : VK} {x : V} {d : PyData} {n : String} {b : Bool} (h : Dp K H x d) (k : kitB (tyD d) n = some b) (q : Q (.bl b) H) : rIsi K [x, .ty n] H Q := ⟨x, .ty n, _, _, b, rfl, .ty n, tyD_ok h, kit_ty k, q⟩
theorem _root_.L2.Same.rd {H H' : Hp} {a : Addr} {u : HO} (e : Same H H') (h : Rd H a u) : Rd H' a u := by
  rcases h with h | ⟨o, h⟩
  · exact .inl (e _ _ h)
  · exact .inr ⟨o, e _ _ h⟩
theorem _root_.L2.Same.seqT {K : PySem.W.Frag} {H H' : Hp} {a : Addr} {xs : List V} (e : Same H H') (h : SqT K H a xs) : SqT K H' a xs := by
  rcases h with h | h
  · exact .inl (e.rd h)
  · exact .inr h
mutual
theorem dp_same {K : PySem.W.Frag} {H H' : Hp} (e : Same H H') : ∀ (d : PyData) (x : V), Dp K H x d → Dp K H' x d
  | .none, _, h => by cases h; exact .non
  | .bool _, _, h => by cases h; exact .bl _
  | .int _, _, h => by cases h; exact .int _
  | .str _, _, h => by cases h; exact .str _
  | .list ds, _, h => by
    cases h with
    | lst h1 h2 => exact .lst (e.seq h1) (dps_same e ds _ h2)
  | .tuple ds, _, h => by
    cases h with
    | tup h1 h2 => exact .tup (e.seqT h1) (dps_same e ds _ h2)
  | .dict _, _, h => by cases h
theorem dps_same {K : PySem.W.Frag} {H H' : Hp} (e : Same H H') : ∀ (ds : List PyData) (xs : List V), DpAll K H xs ds → DpAll K H' xs ds
  | [], _, h => by cases h; exact .nil
  | d :: ds, _, h => by
    cases h with
    | cons h1 h2 => exact .cons (dp_same e d _ h1) (dps_same e ds _ h2)
end
theorem dps_len {K : PySem.W.Frag} {H : Hp} : ∀ {ds : List PyData} {xs : List V}, DpAll K H xs ds → xs.length = ds.length
  | [], _, h => by cases h; rfl
  | d :: ds, _, h => by
    cases h with
    | cons h1 h2 => simp [dps_len h2]
theorem dps_get {K : PySem.W.Frag} {H : Hp} : ∀ {ds : List PyData} {xs : List V} {i : Nat} {d : PyData}, DpAll K H xs ds → ds[i]? = some d → ∃ x, xs[i]? = some x ∧ Dp K H x d
  | [], _, i, d, h, e => by simp at e
  | d' :: ds, _, 0, d, h, e => by
    cases h with
    | cons h1 h2 =>
      simp at e
      subst e
      exact ⟨_, rfl, h1⟩
  | d' :: ds, _, i + 1, d, h, e => by
    cases h with
    | cons h1 h2 =>
      obtain ⟨x, hx, hd⟩ := dps_get (i := i) h2 (by simpa using e)
      exact ⟨x, by simpa using hx, hd⟩
/-! a method that may raise, within a try -/
section
variable {X : Cx} {CX : CXT} {k : Nat} {f C : Addr} {fd : FuncData} {ps : List Str} {sp : Sp} {E : L2.St → XK} {m : Str} {pos apos : Pos} {e o : PySem.Expr} {es : List PySem.Expr} {ta : TE} {t : TA}
def tMethE (C : Addr) (m : Str) (sp : Sp) (E : L2.St → XK) (ta : TE) (t : TA) : TE := fun σ H Q => ta σ H fun x H1 =>
  ∃ a dx fs, x = .ref a ∧ H1 a = some (.ins C dx fs) ∧ fs.lookup m = none ∧ t σ H1 fun vs H2 => sp (x :: vs) H2 Q (E σ)
theorem pe_methE {pl : Sem Bool} (he : PE X o ta) (c : Cls X.K C) (hm : Meth X.K C m f) (F : FnOk X.prog X.w X.K X.mg X.base CX k f fd ps sp) (hr : Room k X.A) (hb : Binds X.K fd ps []) (hx : ∀ σ, PassesAt CX X σ (E σ)) (ha : PA X (e :: es) t)
    (hst : starEach (e :: es) X.env = (false, eval e X.env) :: starEach es X.env := by rfl) (hpl : (backTo pos (starEach es X.env)).any (·.1) = false := by rfl)
    (ht : eval (.Call (.Attribute o m apos) (e :: es) [] pos) X.env = (do
      let ov ← eval o X.env; standAt apos.atName; let (f, first) ← holding [ov] (getMethod ov m pl)
      callWith pos f first (backTo pos (starEach (e :: es) X.env)) (backToKw pos (keywordEach [] X.env))) := by rfl) :
    PE X (.Call (.Attribute o m apos) (e :: es) [] pos) (tMethE C m sp E ta t) := by
  refine ⟨fun pins s σ H Q I h => ?_⟩
  refine PySem.W.methodCall_KW (pl := pl) (thn (he.run pins s σ H _ I h) fun u s1 hh => ?_) ht
  obtain ⟨x, H1, I1, rx, a, dx, fs, ex, ea, l, q⟩ := hh
  subst ex
  obtain rfl : u = Value.ref a := rx
  refine getmeth_ok I1 ea c hm l ?_
  refine PySem.W.callWith_K (first := [.ref a]) (h₀ := X.base) I.ok.mod.kin hm.kp (thn (ha.run pos pins s1 σ H1 _ I1 q) fun us s2 hh => ?_) hst hpl
  obtain ⟨vs, H2, I2, r, q2⟩ := hh
  exact ⟨I2.kIn, run_fnS (us := .ref a :: us) (vs := .ref a :: vs) F hr hb (hx σ) I2 (.cons rfl r) q2⟩
theorem r_methE {σ : L2.St} {H : Hp} {Q : VK} (q : ta σ H fun x H1 => ∃ a dx fs, x = .ref a ∧ H1 a = some (.ins C dx fs) ∧ fs.lookup m = none ∧ t σ H1 fun vs H2 => sp (x :: vs) H2 Q (E σ)) : tMethE C m sp E ta t σ H Q := q
theorem r_xf {σ : L2.St} {H : Hp} {Q : VK} {a : Addr} {cls : Value} {d : Option Addr} {te : TE} (q : te σ H fun x H1 => x = .ref a ∧ cls = .ref C ∧ ∃ (dd : Addr) (fs : List (Str × V)) (v : V), d = some dd ∧ H1 dd = some (.xd fs) ∧ fs.lookup m = some v ∧ Q v H1) : tXf a cls d C m te σ H Q := q
theorem r_slL {K : PySem.W.Frag} {H : Hp} {Q : VK} {a : Addr} {xs : List V} {lo hi : Option Int} (h : H a = some (.lst xs)) (q : ∀ p, H p = none → Q (.ref p) (upd H p (.lst (cutV xs lo hi)))) : rSlL K (.ref a) lo hi H Q := ⟨a, xs, rfl, SqL.of h, q⟩
theorem r_sl {σ : L2.St} {H : Hp} {Q : VK} {r : V → Option Int → Option Int → Hp → VK → Prop} {te : TE} {tl th : TO} (q : te σ H fun x H1 => tl σ H1 fun l H2 => th σ H2 fun u H3 => r x l u H3 Q) : tSl r te tl th σ H Q := q
theorem r_noPart {σ : L2.St} {H : Hp} {Q : Option Int → Hp → Prop} (q : Q none H) : tNoPart σ H Q := q
theorem r_part {σ : L2.St} {H : Hp} {te : TE} {Q : Option Int → Hp → Prop} (q : te σ H fun x H1 => ∃ i, x = .int i ∧ Q (some i) H1) : tPart te σ H Q := q
theorem r_partI {i : Int} {P : Int → Prop} (q : P i) : ∃ j, V.int i = .int j ∧ P j := ⟨i, rfl, q⟩
theorem r_extend {H : Hp} {Q : VK} {l b : Addr} {xs zs : List V} (h : H l = some (.lst xs)) (h2 : H b = some (.lst zs)) (z : xs.length + zs.length ≤ sizeLine) (q : Q .non (upd H l (.lst (xs ++ zs)))) : rExtend (.ref l) [.ref b] H Q := ⟨l, b, xs, zs, rfl, rfl, h, h2, z, q⟩
end
local macro_rules | `(tactic| walk_at "kit") => `(tactic| first
  | exact kt_NoneType_int
  | exact kt_NoneType_bool
  | exact kt_NoneType_str
  | exact kt_NoneType_tuple
  | exact kt_NoneType_list
  | exact kt_NoneType_dict
  | exact kt_bool_int
  | exact kt_bool_bool
  | exact kt_bool_str
  | exact kt_bool_tuple
  | exact kt_bool_list
  | exact kt_bool_dict
  | exact kt_int_int
  | exact kt_int_bool
  | exact kt_int_str
  | exact kt_int_tuple
  | exact kt_int_list
  | exact kt_int_dict
  | exact kt_str_int
  | exact kt_str_bool
  | exact kt_str_str
  | exact kt_str_tuple
  | exact kt_str_list
  | exact kt_str_dict
  | exact kt_list_int
  | exact kt_list_bool
  | exact kt_list_str
  | exact kt_list_tuple
  | exact kt_list_list
  | exact kt_list_dict
  | exact kt_tuple_int
  | exact kt_tuple_bool
  | exact kt_tuple_str
  | exact kt_tuple_tuple
  | exact kt_tuple_list
  | exact kt_tuple_dict
  | exact kt_dict_int
  | exact kt_dict_bool
  | exact kt_dict_str
  | exact kt_dict_tuple
  | exact kt_dict_list
  | exact kt_dict_dict)
local macro_rules | `(tactic| walk_at "ne") => `(tactic| first
  | assumption
  | (apply Ne.symm; assumption)
  | ((refine' ne_of_none ?na_ ?nb_); (case nb_ => assumption); (case na_ => walk_at "hl"))
  | ((refine' Ne.symm (ne_of_none ?na_ ?nb_)); (case nb_ => assumption); (case na_ => walk_at "hl")))
local macro_rules | `(tactic| walk_at "hl") => `(tactic| first
  | assumption
  | exact upd_same
  | ((refine Eq.trans (upd_ne ?ne_) ?_); (case ne_ => walk_at "ne"); walk_at "hl"))
local macro_rules | `(tactic| walk_at "cnd") => `(tactic| first
  | omega
  | exact ⟨by omega, by omega⟩
  | exact ⟨by decide, by decide, by decide⟩
  | exact Or.inl ⟨by omega, by omega⟩
  | exact Or.inr ⟨by omega, by omega⟩)
local macro_rules | `(tactic| walk_at "sz") => `(tactic| first
  | (refine Nat.lt_of_le_of_lt (m := 1000) ?_ (by decide); first | omega | (simp; omega)))
local macro_rules | `(tactic| walk_at "rs1") => `(tactic| first
  | ((with_reducible refine' r_var ?ee_ ?_); (case ee_ => rfl))
  | with_reducible refine r_c ?_
  | with_reducible refine r_op ?_
  | with_reducible refine r_un ?_
  | with_reducible refine r_I0 ?_
  | ((with_reducible refine' r_I ?cc_ ?_); (case cc_ => walk_at "cnd"))
  | with_reducible refine r_U ?_
  | ((with_reducible refine' r_eq ?ee_ ?_); (case ee_ => rfl))
  | ((with_reducible refine' r_ne ?ee_ ?_); (case ee_ => rfl))
  | with_reducible refine r_test ?_
  | with_reducible refine r_B ?_
  | with_reducible refine r_bl ?_
  | with_reducible refine r_seq ?_
  | with_reducible refine r_next ?_
  | with_reducible refine r_ret ?_
  | with_reducible refine r_retN ?_
  | with_reducible refine r_drop ?_
  | with_reducible refine r_asg ?_
  | with_reducible refine r_ifS ?_
  | with_reducible refine r_gN ?_
  | with_reducible refine r_gC ?_
  | ((with_reducible refine' r_gT ?ss_ ?ll_ ?_); (case ss_ => walk_at "hl"); (case ll_ => rfl))
  | with_reducible refine r_gZ ?_
  | with_reducible refine r_gS ?_
  | with_reducible refine r_nil ?_
  | with_reducible refine r_cons ?_
  | with_reducible refine r_CB ?_
  | with_reducible refine r_call ?_
  | with_reducible refine r_callS ?_
  | with_reducible refine r_tup ?_
  | with_reducible refine r_lst ?_
  | ((with_reducible refine r_sz ?ee_ ?_); (case ee_ => first | exact Nat.zero_le _ | (simp; done) | (simp; omega)))
  | with_reducible refine iteT ?_
  | with_reducible refine iteF ?_
  | with_reducible refine r_not ?_
  | with_reducible refine r_and ?_
  | with_reducible refine r_or ?_
  | with_reducible refine r_andV ?_
  | with_reducible refine r_orV ?_
  | with_reducible refine r_notV ?_
  | with_reducible refine r_ifE ?_
  | with_reducible refine r_isN ?_
  | with_reducible refine r_notN ?_
  | with_reducible refine r_chain ?_
  | with_reducible refine r_for ?_
  | with_reducible refine r_rng1 ?_
  | with_reducible refine r_rng2 ?_
  | with_reducible refine r_rng3 ?_
  | with_reducible refine r_iList ?_
  | with_reducible refine r_lc ?_
  | ((with_reducible refine r_iteVT ?hh_ ?_); (case hh_ => rfl))
  | ((with_reducible refine r_iteVF ?hh_ ?_); (case hh_ => (intro z; cases z)))
  | with_reducible refine r_isBool ?_
  | with_reducible refine r_methE ?_
  | with_reducible refine r_xf ?_
  | with_reducible refine r_sl ?_
  | with_reducible refine r_noPart ?_
  | with_reducible refine r_part ?_
  | with_reducible refine r_partI ?_
  | ((with_reducible refine' r_slL ?hh_ ?_); (case hh_ => walk_at "hl"))
  | ((with_reducible refine' r_extend ?hh_ ?jj_ ?zz_ ?_); (case hh_ => walk_at "hl"); (case jj_ => walk_at "hl"); (case zz_ => assumption))
  | with_reducible refine r_iteNf ?_
  | with_reducible refine r_iteNt ?_
  | ((with_reducible refine' r_isi ?hh_ ?kk_ ?_); (case hh_ => assumption); (case kk_ => walk_at "kit"))
  | with_reducible refine r_yes ?_
  | with_reducible refine r_din ?_
  | with_reducible refine r_dnotin ?_
  | with_reducible refine r_dget1 ?_
  | with_reducible refine r_dget ?_
  | with_reducible refine r_dput ?_
  | with_reducible refine r_sfld ?_
  | with_reducible refine r_mkO ?_
  | with_reducible refine r_make ?_
  | with_reducible refine r_meth ?_
  | with_reducible refine r_dnew ?_
  | with_reducible refine r_brk ?_
  | with_reducible refine r_cont ?_
  | with_reducible refine r_fld ?_
  | ((with_reducible refine' r_ixL ?hh_ ?aa_ ?_); (case hh_ => walk_at "hl"); (case aa_ => first | rfl | assumption))
  | ((with_reducible refine' r_ixT ?hh_ ?aa_ ?_); (case hh_ => walk_at "hl"); (case aa_ => first | rfl | assumption))
  | ((with_reducible refine' r_setL ?hh_ ?aa_ ?_); (case hh_ => walk_at "hl"); (case aa_ => first | rfl | assumption))
  | ((with_reducible refine' r_len ?hh_ ?_); (case hh_ => walk_at "hl"))
  | ((with_reducible refine' r_lenT ?hh_ ?_); (case hh_ => walk_at "hl"))
  | with_reducible refine r_int1 ?_
  | with_reducible refine r_abs ?_
  | with_reducible refine r_max ?_
  | with_reducible refine r_min ?_
  | ((with_reducible refine' r_listOf ?hh_ ?_); (case hh_ => walk_at "hl"))
  | with_reducible refine r_isNo ?_
  | with_reducible refine r_notNo ?_
  | with_reducible refine r_bm ?_
  | with_reducible refine r_bm0 ?_
  | ((with_reducible refine' r_tyL ?hh_ ?_); (case hh_ => walk_at "hl"))
  | ((with_reducible refine' r_append ?hh_ ?zz_ ?_); (case hh_ => walk_at "hl"); (case zz_ => walk_at "sz"))
  | ((with_reducible refine' r_insert ?hh_ ?zz_ ?ii_ ?jj_ ?_); (case hh_ => walk_at "hl"); (case zz_ => walk_at "sz"); (case ii_ => omega); (case jj_ => omega)))
local macro_rules | `(tactic| walk_at "rs") => `(tactic| (repeat' (walk_at "rs1")))
/-! ### the text by places -/
def top (i : Nat) : Stmt := PySem.Challenge.pw_sandthreads_k10_equal_boards.main.body.getD i (.Pass ⟨0, 0, 0, 0⟩)
abbrev s_SandError___init__ : Stmt := (inClass (top 2) 0)
abbrev N_SandError___init__ : List Str := ["self", "value"]
abbrev P_SandError___init__ : List Str := ["self", "value"]
theorem sc_SandError___init__ : FnScope N_SandError___init__ P_SandError___init__ (defScope s_SandError___init__) := ⟨rfl, rfl, rfl, by decide +kernel, rfl, by decide +kernel, by decide +kernel⟩

abbrev s_is_inside : Stmt := (top 9)
abbrev N_is_inside : List Str := ["width", "height", "x", "y"]
abbrev P_is_inside : List Str := ["width", "height", "x", "y"]
theorem sc_is_inside : FnScope N_is_inside P_is_inside (defScope s_is_inside) := ⟨rfl, rfl, rfl, by decide +kernel, rfl, by decide +kernel, by decide +kernel⟩

abbrev s_check_mirror : Stmt := (top 10)
abbrev N_check_mirror : List Str := ["width", "height", "kinds", "mirror", "x", "y", "kind"]
abbrev P_check_mirror : List Str := ["width", "height", "kinds", "mirror"]
theorem sc_check_mirror : FnScope N_check_mirror P_check_mirror (defScope s_check_mirror) := ⟨rfl, rfl, rfl, by decide +kernel, rfl, by decide +kernel, by decide +kernel⟩

abbrev s_kinds_of : Stmt := (top 11)
abbrev N_kinds_of : List Str := ["width", "height", "mirrors", "kinds", "x", "y", "kind"]
abbrev P_kinds_of : List Str := ["width", "height", "mirrors"]
theorem sc_kinds_of : FnScope N_kinds_of P_kinds_of (defScope s_kinds_of) := ⟨rfl, rfl, rfl, by decide +kernel, rfl, by decide +kernel, by decide +kernel⟩

abbrev s_Board___init__ : Stmt := (inClass (top 12) 0)
abbrev N_Board___init__ : List Str := ["self", "width", "height", "mirrors"]
abbrev P_Board___init__ : List Str := ["self", "width", "height", "mirrors"]
theorem sc_Board___init__ : FnScope N_Board___init__ P_Board___init__ (defScope s_Board___init__) := ⟨rfl, rfl, rfl, by decide +kernel, rfl, by decide +kernel, by decide +kernel⟩

abbrev s_Board___eq__ : Stmt := (inClass (top 12) 5)
abbrev N_Board___eq__ : List Str := ["self", "other"]
abbrev P_Board___eq__ : List Str := ["self", "other"]
theorem sc_Board___eq__ : FnScope N_Board___eq__ P_Board___eq__ (defScope s_Board___eq__) := ⟨rfl, rfl, rfl, by decide +kernel, rfl, by decide +kernel, by decide +kernel⟩

abbrev s__law_hand : Stmt := (top 14)
abbrev N__law_hand : List Str := ["_law_script", "_law_total", "_law_cell"]
abbrev P__law_hand : List Str := ["_law_script"]
theorem sc__law_hand : FnScope N__law_hand P__law_hand (defScope s__law_hand) := ⟨rfl, rfl, rfl, by decide +kernel, rfl, by decide +kernel, by decide +kernel⟩

abbrev s__law_take : Stmt := (top 15)
abbrev N__law_take : List Str := ["_law_hand_here", "_law_limit", "_law_cells", "_law_k", "_law_cell", "_law_place", "_law_mixed"]
abbrev P__law_take : List Str := ["_law_hand_here", "_law_limit"]
theorem sc__law_take : FnScope N__law_take P__law_take (defScope s__law_take) := ⟨rfl, rfl, rfl, by decide +kernel, rfl, by decide +kernel, by decide +kernel⟩

abbrev s__law_big : Stmt := (top 16)
abbrev N__law_big : List Str := ["_law_hand_here", "_law_limit", "_law_number", "_law_step"]
abbrev P__law_big : List Str := ["_law_hand_here", "_law_limit"]
theorem sc__law_big : FnScope N__law_big P__law_big (defScope s__law_big) := ⟨rfl, rfl, rfl, by decide +kernel, rfl, by decide +kernel, by decide +kernel⟩

abbrev s__law_points : Stmt := (top 17)
abbrev N__law_points : List Str := ["_law_width", "_law_height", "_law_points_here", "_law_y", "_law_x"]
abbrev P__law_points : List Str := ["_law_width", "_law_height"]
theorem sc__law_points : FnScope N__law_points P__law_points (defScope s__law_points) := ⟨rfl, rfl, rfl, by decide +kernel, rfl, by decide +kernel, by decide +kernel⟩

abbrev s__law_mirrors : Stmt := (top 18)
abbrev N__law_mirrors : List Str := ["_law_hand_here", "_law_width", "_law_height", "_law_share", "_law_mirrors_here", "_law_x", "_law_y", "_law_kind"]
abbrev P__law_mirrors : List Str := ["_law_hand_here", "_law_width", "_law_height"]
theorem sc__law_mirrors : FnScope N__law_mirrors P__law_mirrors (defScope s__law_mirrors) := ⟨rfl, rfl, rfl, by decide +kernel, rfl, by decide +kernel, by decide +kernel⟩

abbrev s__law_sizes : Stmt := (top 19)
abbrev N__law_sizes : List Str := ["_law_hand_here", "_law_most", "_law_one", "_law_other"]
abbrev P__law_sizes : List Str := ["_law_hand_here", "_law_most"]
theorem sc__law_sizes : FnScope N__law_sizes P__law_sizes (defScope s__law_sizes) := ⟨rfl, rfl, rfl, by decide +kernel, rfl, by decide +kernel, by decide +kernel⟩

abbrev s__law_spot : Stmt := (top 20)
abbrev N__law_spot : List Str := ["_law_hand_here", "_law_width", "_law_height", "_law_across"]
abbrev P__law_spot : List Str := ["_law_hand_here", "_law_width", "_law_height"]
theorem sc__law_spot : FnScope N__law_spot P__law_spot (defScope s__law_spot) := ⟨rfl, rfl, rfl, by decide +kernel, rfl, by decide +kernel, by decide +kernel⟩

abbrev s__law_far : Stmt := (top 21)
abbrev N__law_far : List Str := ["_law_hand_here", "_law_most", "_law_limit", "_law_sizes_here", "_law_small", "_law_mirrors_here", "_law_step", "_law_x", "_law_y", "_law_a", "_law_b", "_law_kind"]
abbrev P__law_far : List Str := ["_law_hand_here", "_law_most", "_law_limit"]
theorem sc__law_far : FnScope N__law_far P__law_far (defScope s__law_far) := ⟨rfl, rfl, rfl, by decide +kernel, rfl, by decide +kernel, by decide +kernel⟩

abbrev s__law_agree : Stmt := (top 22)
abbrev N__law_agree : List Str := ["_law_one", "_law_other", "_law_due"]
abbrev P__law_agree : List Str := ["_law_one", "_law_other", "_law_due"]
theorem sc__law_agree : FnScope N__law_agree P__law_agree (defScope s__law_agree) := ⟨rfl, rfl, rfl, by decide +kernel, rfl, by decide +kernel, by decide +kernel⟩

abbrev s__law_exchanged : Stmt := (top 23)
abbrev N__law_exchanged : List Str := ["_law_hand_here", "_law_width", "_law_height", "_law_first", "_law_rest", "_law_x", "_law_y", "_law_kind", "_law_rows", "_law_apart", "_law_a", "_law_b", "_law_other", "_law_left", "_law_places", "_law_across", "_law_row"]
abbrev P__law_exchanged : List Str := ["_law_hand_here", "_law_width", "_law_height", "_law_first", "_law_rest"]
theorem sc__law_exchanged : FnScope N__law_exchanged P__law_exchanged (defScope s__law_exchanged) := ⟨rfl, rfl, rfl, by decide +kernel, rfl, by decide +kernel, by decide +kernel⟩

abbrev s__law_others : Stmt := (top 24)
abbrev N__law_others : List Str := ["_law_hand_here", "_law_width", "_law_height", "_law_mirrors_here", "_law_rows", "_law_free", "_law_at", "_law_x", "_law_y", "_law_kind", "_law_rest", "_law_row", "_law_a", "_law_b", "_law_other"]
abbrev P__law_others : List Str := ["_law_hand_here", "_law_width", "_law_height", "_law_mirrors_here"]
theorem sc__law_others : FnScope N__law_others P__law_others (defScope s__law_others) := ⟨rfl, rfl, rfl, by decide +kernel, rfl, by decide +kernel, by decide +kernel⟩

abbrev s_law : Stmt := (top 25)
abbrev N_law : List Str := ["_law_script", "_law_hand_here", "_law_width", "_law_height", "_law_mirrors_here", "_law_board", "_law_others_here", "_law_row", "_law_one", "_law_twin", "_law_value"]
abbrev P_law : List Str := ["_law_script"]
theorem sc_law : FnScope N_law P_law (defScope s_law) := ⟨rfl, rfl, rfl, by decide +kernel, rfl, by decide +kernel, by decide +kernel⟩

structure Ad where
  f_SandError___init__ : Addr
  d_SandError___init__ : FuncData
  f_is_inside : Addr
  d_is_inside : FuncData
  f_check_mirror : Addr
  d_check_mirror : FuncData
  f_kinds_of : Addr
  d_kinds_of : FuncData
  f_Board___init__ : Addr
  d_Board___init__ : FuncData
  f_Board___eq__ : Addr
  d_Board___eq__ : FuncData
  f__law_hand : Addr
  d__law_hand : FuncData
  f__law_take : Addr
  d__law_take : FuncData
  f__law_big : Addr
  d__law_big : FuncData
  f__law_points : Addr
  d__law_points : FuncData
  f__law_mirrors : Addr
  d__law_mirrors : FuncData
  f__law_sizes : Addr
  d__law_sizes : FuncData
  f__law_spot : Addr
  d__law_spot : FuncData
  f__law_far : Addr
  d__law_far : FuncData
  f__law_agree : Addr
  d__law_agree : FuncData
  f__law_exchanged : Addr
  d__law_exchanged : FuncData
  f__law_others : Addr
  d__law_others : FuncData
  f_law : Addr
  d_law : FuncData
  C_InvalidSize : Addr
  C_InvalidPoint : Addr
  C_InvalidMirror : Addr
  C_Taken : Addr
  C_Board : Addr
  C_InvalidTurn : Addr
  C_NoMirror : Addr
  c_KINDS : Addr
structure Txt (K : PySem.W.Frag) (mg : Str → Option Value) (A : Ad) : Prop where
  F_SandError___init__ : Fun K "__init__" "SandError.__init__" s_SandError___init__ A.f_SandError___init__ A.d_SandError___init__
  k_SandError___init__ : PySem.W.keepIn K (.ref A.f_SandError___init__) = true
  b_SandError___init__ : Binds K A.d_SandError___init__ P_SandError___init__ []
  F_is_inside : Fun K "is_inside" "is_inside" s_is_inside A.f_is_inside A.d_is_inside
  k_is_inside : PySem.W.keepIn K (.ref A.f_is_inside) = true
  b_is_inside : Binds K A.d_is_inside P_is_inside []
  g_is_inside : mg "is_inside" = some (.ref A.f_is_inside)
  F_check_mirror : Fun K "check_mirror" "check_mirror" s_check_mirror A.f_check_mirror A.d_check_mirror
  k_check_mirror : PySem.W.keepIn K (.ref A.f_check_mirror) = true
  b_check_mirror : Binds K A.d_check_mirror P_check_mirror []
  g_check_mirror : mg "check_mirror" = some (.ref A.f_check_mirror)
  F_kinds_of : Fun K "kinds_of" "kinds_of" s_kinds_of A.f_kinds_of A.d_kinds_of
  k_kinds_of : PySem.W.keepIn K (.ref A.f_kinds_of) = true
  b_kinds_of : Binds K A.d_kinds_of P_kinds_of []
  g_kinds_of : mg "kinds_of" = some (.ref A.f_kinds_of)
  F_Board___init__ : Fun K "__init__" "Board.__init__" s_Board___init__ A.f_Board___init__ A.d_Board___init__
  k_Board___init__ : PySem.W.keepIn K (.ref A.f_Board___init__) = true
  b_Board___init__ : Binds K A.d_Board___init__ P_Board___init__ []
  F_Board___eq__ : Fun K "__eq__" "Board.__eq__" s_Board___eq__ A.f_Board___eq__ A.d_Board___eq__
  k_Board___eq__ : PySem.W.keepIn K (.ref A.f_Board___eq__) = true
  b_Board___eq__ : Binds K A.d_Board___eq__ P_Board___eq__ []
  F__law_hand : Fun K "_law_hand" "_law_hand" s__law_hand A.f__law_hand A.d__law_hand
  k__law_hand : PySem.W.keepIn K (.ref A.f__law_hand) = true
  b__law_hand : Binds K A.d__law_hand P__law_hand []
  g__law_hand : mg "_law_hand" = some (.ref A.f__law_hand)
  F__law_take : Fun K "_law_take" "_law_take" s__law_take A.f__law_take A.d__law_take
  k__law_take : PySem.W.keepIn K (.ref A.f__law_take) = true
  b__law_take : Binds K A.d__law_take P__law_take []
  g__law_take : mg "_law_take" = some (.ref A.f__law_take)
  F__law_big : Fun K "_law_big" "_law_big" s__law_big A.f__law_big A.d__law_big
  k__law_big : PySem.W.keepIn K (.ref A.f__law_big) = true
  b__law_big : Binds K A.d__law_big P__law_big []
  g__law_big : mg "_law_big" = some (.ref A.f__law_big)
  F__law_points : Fun K "_law_points" "_law_points" s__law_points A.f__law_points A.d__law_points
  k__law_points : PySem.W.keepIn K (.ref A.f__law_points) = true
  b__law_points : Binds K A.d__law_points P__law_points []
  g__law_points : mg "_law_points" = some (.ref A.f__law_points)
  F__law_mirrors : Fun K "_law_mirrors" "_law_mirrors" s__law_mirrors A.f__law_mirrors A.d__law_mirrors
  k__law_mirrors : PySem.W.keepIn K (.ref A.f__law_mirrors) = true
  b__law_mirrors : Binds K A.d__law_mirrors P__law_mirrors []
  g__law_mirrors : mg "_law_mirrors" = some (.ref A.f__law_mirrors)
  F__law_sizes : Fun K "_law_sizes" "_law_sizes" s__law_sizes A.f__law_sizes A.d__law_sizes
  k__law_sizes : PySem.W.keepIn K (.ref A.f__law_sizes) = true
  b__law_sizes : Binds K A.d__law_sizes P__law_sizes []
  g__law_sizes : mg "_law_sizes" = some (.ref A.f__law_sizes)
  F__law_spot : Fun K "_law_spot" "_law_spot" s__law_spot A.f__law_spot A.d__law_spot
  k__law_spot : PySem.W.keepIn K (.ref A.f__law_spot) = true
  b__law_spot : Binds K A.d__law_spot P__law_spot []
  g__law_spot : mg "_law_spot" = some (.ref A.f__law_spot)
  F__law_far : Fun K "_law_far" "_law_far" s__law_far A.f__law_far A.d__law_far
  k__law_far : PySem.W.keepIn K (.ref A.f__law_far) = true
  b__law_far : Binds K A.d__law_far P__law_far []
  g__law_far : mg "_law_far" = some (.ref A.f__law_far)
  F__law_agree : Fun K "_law_agree" "_law_agree" s__law_agree A.f__law_agree A.d__law_agree
  k__law_agree : PySem.W.keepIn K (.ref A.f__law_agree) = true
  b__law_agree : Binds K A.d__law_agree P__law_agree []
  g__law_agree : mg "_law_agree" = some (.ref A.f__law_agree)
  F__law_exchanged : Fun K "_law_exchanged" "_law_exchanged" s__law_exchanged A.f__law_exchanged A.d__law_exchanged
  k__law_exchanged : PySem.W.keepIn K (.ref A.f__law_exchanged) = true
  b__law_exchanged : Binds K A.d__law_exchanged P__law_exchanged []
  g__law_exchanged : mg "_law_exchanged" = some (.ref A.f__law_exchanged)
  F__law_others : Fun K "_law_others" "_law_others" s__law_others A.f__law_others A.d__law_others
  k__law_others : PySem.W.keepIn K (.ref A.f__law_others) = true
  b__law_others : Binds K A.d__law_others P__law_others []
  g__law_others : mg "_law_others" = some (.ref A.f__law_others)
  F_law : Fun K "law" "law" s_law A.f_law A.d_law
  k_law : PySem.W.keepIn K (.ref A.f_law) = true
  b_law : Binds K A.d_law P_law []
  g_law : mg "law" = some (.ref A.f_law)
  g_InvalidSize : mg "InvalidSize" = some (.ref A.C_InvalidSize)
  X_InvalidSize : OexC K A.C_InvalidSize
  i_InvalidSize : PySem.W.findIn K (.ref A.C_InvalidSize) "__init__" = some (some (.ref A.f_SandError___init__))
  xf_InvalidSize : XfC K A.C_InvalidSize
  te_InvalidSize : PySem.W.exmOne K (.ref A.C_InvalidSize) (.ref A.C_InvalidSize) = some true
  no_InvalidSize : PySem.W.findIn K (.ref A.C_InvalidSize) "value" = some none
  g_InvalidPoint : mg "InvalidPoint" = some (.ref A.C_InvalidPoint)
  X_InvalidPoint : OexC K A.C_InvalidPoint
  i_InvalidPoint : PySem.W.findIn K (.ref A.C_InvalidPoint) "__init__" = some (some (.ref A.f_SandError___init__))
  xf_InvalidPoint : XfC K A.C_InvalidPoint
  te_InvalidPoint : PySem.W.exmOne K (.ref A.C_InvalidPoint) (.ref A.C_InvalidPoint) = some true
  no_InvalidPoint : PySem.W.findIn K (.ref A.C_InvalidPoint) "value" = some none
  g_InvalidMirror : mg "InvalidMirror" = some (.ref A.C_InvalidMirror)
  X_InvalidMirror : OexC K A.C_InvalidMirror
  i_InvalidMirror : PySem.W.findIn K (.ref A.C_InvalidMirror) "__init__" = some (some (.ref A.f_SandError___init__))
  xf_InvalidMirror : XfC K A.C_InvalidMirror
  te_InvalidMirror : PySem.W.exmOne K (.ref A.C_InvalidMirror) (.ref A.C_InvalidMirror) = some true
  no_InvalidMirror : PySem.W.findIn K (.ref A.C_InvalidMirror) "value" = some none
  g_Taken : mg "Taken" = some (.ref A.C_Taken)
  X_Taken : OexC K A.C_Taken
  i_Taken : PySem.W.findIn K (.ref A.C_Taken) "__init__" = some (some (.ref A.f_SandError___init__))
  xf_Taken : XfC K A.C_Taken
  te_Taken : PySem.W.exmOne K (.ref A.C_Taken) (.ref A.C_Taken) = some true
  no_Taken : PySem.W.findIn K (.ref A.C_Taken) "value" = some none
  ti_init : PySem.W.typeIn K (.ref A.f_SandError___init__) = some (.type "function")
  g_Board : mg "Board" = some (.ref A.C_Board)
  M_Board : Mk K A.C_Board A.f_Board___init__
  cl_Board : Cls K A.C_Board
  ne_Board : PySem.W.findIn K (.ref A.C_Board) "__ne__" = some (some (.builtin "object.__ne__"))
  zc_Board : PySem.W.isClsIn K A.C_Board = true
  tc_Board : PySem.W.typeIn K (.ref A.C_Board) = some (.type "type")
  i1_Board : PySem.W.findIn K (.ref A.C_Board) "__class__" = some (some (.builtin "object.__class__"))
  i2_Board : PySem.W.specialIn K (.builtin "object.__class__") "__get__" = some (some (.builtin "getset_descriptor.__get__"))
  i3_Board : PySem.W.takesIn K (.builtin "object.__class__") = some true
  i4_Board : PySem.W.mroIn K A.C_Board (.type "object") = some true
  na_Board_wide : NoAttr K A.C_Board "wide"
  na_Board_high : NoAttr K A.C_Board "high"
  na_Board_kinds : NoAttr K A.C_Board "kinds"
  m_Board___eq__ : Meth K A.C_Board "__eq__" A.f_Board___eq__
  g_KINDS : mg "KINDS" = some (.ref A.c_KINDS)
  q_KINDS : ∀ H : Hp, SqT K H A.c_KINDS [.str "-", .str "|"]
  n_len : mg "len" = none
  n_int : mg "int" = none
  n_abs : mg "abs" = none
  n_min : mg "min" = none
  n_range : mg "range" = none
  n_list : mg "list" = none
  n_isinstance : mg "isinstance" = none
  n_bool : mg "bool" = none
  n_str : mg "str" = none
  n_tuple : mg "tuple" = none
  n_sorted : mg "sorted" = none
/-! ### the hand: draws -/
def HandAt (H : Hp) (p c : Addr) (n : Nat) : Prop := ∃ (cs : List Int) (k : Nat) (t : Int), H p = some (.lst [.ref c, .int k, .int t]) ∧ H c = some (.lst (cs.map V.int)) ∧ c ≠ p ∧ (∀ x ∈ cs, 0 ≤ x) ∧ cs.length ≤ 63 ∧ k ≤ n
def Keep2 (p c : Addr) (H H' : Hp) : Prop := ∀ b o, H b = some o → b ≠ p → b ≠ c → H' b = some o
theorem HandAt.mono {H : Hp} {p c : Addr} {n m : Nat} (h : HandAt H p c n) (e : n ≤ m) : HandAt H p c m := by
  obtain ⟨cs, k, t, a, b, d, f, g, i⟩ := h
  exact ⟨cs, k, t, a, b, d, f, g, Nat.le_trans i e⟩
def spTake : Sp := fun vs H Q _ => ∃ (p c : Addr) (n : Nat) (lim : Int), vs = [.ref p, .int lim] ∧ HandAt H p c n ∧ n < 1000000000 ∧ 0 < lim ∧ lim < 1073741824 ∧
  ∀ (r : Int) (H' : Hp), 0 ≤ r → r < lim → HandAt H' p c (n + 1) → Keep2 p c H H' → Q (.int r) H'
section
variable {P : Program} {w : World} {K : PySem.W.Frag} {mg : Str → Option Value} {base : Heap} {A : Ad}
theorem mod_rng {a m : Int} (h : 0 < m) : 0 ≤ a % m ∧ a % m < m := ⟨Int.emod_nonneg a (by omega), Int.emod_lt_of_pos a h⟩
theorem at_mod {cs : List Int} {k : Int} (h : 0 < ((cs.map V.int).length : Int)) : ∃ (j : Nat) (z : Int), cs[j]? = some z ∧ j < cs.length ∧ ixN (cs.map V.int).length (k % ((cs.map V.int).length : Nat)) = some j ∧ atI (cs.map V.int) (k % ((cs.map V.int).length : Nat)) = some (V.int z) := by
  have r := mod_rng (a := k) h
  generalize hm : k % ((cs.map V.int).length : Nat) = m at r
  obtain ⟨r1, r2⟩ := r
  have hl : (cs.map V.int).length = cs.length := List.length_map ..
  have hj : m.toNat < cs.length := by omega
  have e : ixN (cs.map V.int).length m = some m.toNat := by
    unfold ixN
    rw [if_pos r1, if_pos r2]
  refine ⟨m.toNat, cs[m.toNat], List.getElem?_eq_getElem hj, hj, e, ?_⟩
  unfold atI
  rw [e]
  simp [hj]
theorem hand_set {cs : List Int} {j : Nat} {z : Int} (h : ∀ x ∈ cs, (0 : Int) ≤ x) (hz : 0 ≤ z) : ∀ x ∈ cs.set j z, (0 : Int) ≤ x := by
  intro x hx
  rcases List.mem_or_eq_of_mem_set hx with hx | hx
  · exact h x hx
  · omega
theorem ok__law_take (T : Txt K mg A) : FnOk P w K mg base CX0 1 A.f__law_take A.d__law_take P__law_take spTake := by
  refine T.F__law_take.ok sc__law_take (fun vs H Q E h => ?_) (fun cdv A' outer s H vs Q E hr h => ?_)
  · obtain ⟨p, c, n, lim, rfl, _⟩ := h
    rfl
  · obtain ⟨p, c, n, lim, rfl, ⟨cs, k, t, hp, hc, hcp, hpos, hlen, hk⟩, hn, hl0, hl1, kk⟩ := h
    refine ⟨_, (pss_cons (ps_set (i := 2) sc__law_take.nd rfl (Or.inl rfl) (pe_ix ix_list (pv 0) pe_int (fun _ _ => rfl)))
(pss_cons (ps_set (i := 3) sc__law_take.nd rfl (Or.inl rfl) (pe_ix ix_list (pv 0) pe_int (fun _ _ => rfl)))
(pss_cons (ps_asg (pe_op op_add (pv 3) pe_int) (pg_sub (pv 0) pe_int set_list))
(pss_cons (ps_set (i := 4) sc__law_take.nd rfl (Or.inl rfl) pe_int)
(pss_cons (ps_if (pt_cmpR op_gt (pe_callB c_len (by rfl) T.n_len (by decide +kernel) (pa_cons (pv 2) pa_nil)) pe_int (nomark _))
(pss_cons (ps_set (i := 5) sc__law_take.nd rfl (Or.inl rfl) (pe_op op_mod (pv 3) (pe_callB c_len (by rfl) T.n_len (by decide +kernel) (pa_cons (pv 2) pa_nil))))
(pss_cons (ps_set (i := 4) sc__law_take.nd rfl (Or.inl rfl) (pe_ix ix_list (pv 2) (pv 5) (fun _ _ => rfl)))
(pss_one (ps_if (pt_cmpR op_ge (pv 4) (pe_op op_pow pe_int pe_int) (nomark _))
(pss_cons (ps_asg (pe_op op_fdiv (pv 4) (pv 1)) (pg_sub (pv 2) (pv 5) set_list))
(pss_one (ps_ret (pe_op op_mod (pe_callTy c_int (by rfl) T.n_int (by decide +kernel) (pa_cons (pv 4) pa_nil)) (pv 1)))))
pss_nil))))
pss_nil)
(pss_cons (ps_set (i := 6) sc__law_take.nd rfl (Or.inl rfl) (pe_op op_mul (pe_op op_mod (pv 4) pe_int) (pe_op op_add (pe_op op_add (pe_op op_mul (pv 3) (pv 3)) (pe_op op_mul pe_int (pv 3))) pe_int)))
(pss_cons (ps_set (i := 6) sc__law_take.nd rfl (Or.inl rfl) (pe_op op_add (pe_op op_add (pe_op op_add (pv 6) (pe_op op_fdiv (pv 4) pe_int)) (pe_op op_mul (pv 3) pe_int)) (pe_ix ix_list (pv 0) pe_int (fun _ _ => rfl))))
(pss_cons (ps_set (i := 6) sc__law_take.nd rfl (Or.inl rfl) (pe_op op_mod (pe_callTy c_int (by rfl) T.n_int (by decide +kernel) (pa_cons (pv 6) pa_nil)) pe_int))
(pss_cons (ps_set (i := 6) sc__law_take.nd rfl (Or.inl rfl) (pe_op op_mod (pe_callTy c_int (by rfl) T.n_int (by decide +kernel) (pa_cons (pe_op op_add (pe_op op_add (pe_op op_mul (pv 6) (pv 6)) (pe_op op_mul pe_int (pv 6))) (pv 3)) pa_nil)) pe_int))
(pss_one (ps_ret (pe_op op_mod (pe_op op_fdiv (pv 6) pe_int) (pv 1))))))))))))), ?_⟩
    have hpc : p ≠ c := hcp.symm
    have rng : ∀ a : Int, 0 ≤ a % lim ∧ a % lim < lim := fun a => mod_rng hl0
    have r1 : ∀ a : Int, 0 ≤ a % 2147483629 ∧ a % 2147483629 < 2147483629 := fun a => mod_rng (by decide)
    walk_at "rs"
    refine r_ite (fun h0 => ?_) (fun h0 => ?_)
    · obtain ⟨j, z, hz, hjl, e1, e2⟩ := at_mod (cs := cs) (k := (k : Int)) h0
      have hz0 : 0 ≤ z := hpos z (List.mem_of_getElem? hz)
      walk_at "rs"
      refine r_ite (fun h1 => ?_) (fun h1 => ?_)
      · walk_at "rs"
        refine kk _ _ (rng z).1 (rng z).2 ⟨cs.set j (z / lim), k + 1, t, ?_, ?_, hcp, hand_set hpos (Int.ediv_nonneg hz0 (by omega)), by simpa using hlen, by omega⟩ ?_
        · walk_at "hl"
        · rw [upd_same, List.map_set]
        · intro b o hb hbp hbc
          rw [upd_ne hbc, upd_ne hbp]
          exact hb
      · have hm1 := r1 0
        have hmm : 0 ≤ z % 1000000007 ∧ z % 1000000007 < 1000000007 := mod_rng (by decide)
        walk_at "rs"
        refine kk _ _ (rng _).1 (rng _).2 ⟨cs, k + 1, t, by walk_at "hl", by walk_at "hl", hcp, hpos, hlen, by omega⟩ ?_
        intro b o hb hbp hbc
        rw [upd_ne hbp]
        exact hb
    · walk_at "rs"
      refine kk _ _ (rng _).1 (rng _).2 ⟨cs, k + 1, t, by walk_at "hl", by walk_at "hl", hcp, hpos, hlen, by omega⟩ ?_
      intro b o hb hbp hbc
      rw [upd_ne hbp]
      exact hb
end
/-! ### the token of a hand -/
structure TokAt (H : Hp) (p c : Addr) (n : Nat) : Prop where
  at_ : HandAt H p c n
theorem TokAt.tokp {H : Hp} {p c : Addr} {n : Nat} (h : TokAt H p c n) : ∃ xs, H p = some (.lst xs) := by
  obtain ⟨_, _, _, e, _⟩ := h.at_
  exact ⟨_, e⟩
theorem TokAt.tokc {H : Hp} {p c : Addr} {n : Nat} (h : TokAt H p c n) : ∃ xs, H c = some (.lst xs) := by
  obtain ⟨_, _, _, _, e, _⟩ := h.at_
  exact ⟨_, e⟩
theorem TokAt.keep {H H' : Hp} {p c : Addr} {n : Nat} (h : TokAt H p c n) (hp : ∀ o, H p = some o → H' p = some o) (hc : ∀ o, H c = some o → H' c = some o) : TokAt H' p c n := by
  obtain ⟨cs, k, t, a, b, d⟩ := h.at_
  exact ⟨cs, k, t, hp _ a, hc _ b, d⟩
theorem TokAt.mono {H : Hp} {p c : Addr} {n m : Nat} (h : TokAt H p c n) (e : n ≤ m) : TokAt H p c m := ⟨h.at_.mono e⟩
/-! ### errors -/
def spErr (K : PySem.W.Frag) : Sp := fun vs H Q _ => ∃ (a C : Addr) (v : V), vs = [.ref a, v] ∧ OexC K C ∧ PySem.W.findIn K (.ref C) "value" = some none ∧ H a = some (exo a C none) ∧
  ∀ dx, H dx = none → dx ≠ a → Q .non (upd (upd H dx (exd dx [(("value" : Str), v)])) a (exo a C (some dx)))
/-- what is wanted where an error with this value is raised -/
def WishV (C : Addr) (v : V) (E : XK) (H : Hp) : Prop := ∀ (d : Addr) (H' : Hp), Same H H' → H' d = some (.xd [(("value" : Str), v)]) → E (.ref C) (some d) H'
def WishT (C : Addr) (x y : Int) (E : XK) (H : Hp) : Prop := ∀ (d q : Addr) (H' : Hp), Same H H' → H' d = some (.xd [(("value" : Str), .ref q)]) → H' q = some (.tup [.int x, .int y]) → E (.ref C) (some d) H'
theorem raise_val {K : PySem.W.Frag} {C : Addr} {v : V} {H1 : Hp} {E : XK} (X : OexC K C) (no : PySem.W.findIn K (.ref C) "value" = some none) (h : WishV C v E H1) :
    ∀ a, H1 a = none → spErr K (.ref a :: ([v] ++ [])) (upd H1 a (exo a C none)) (fun v' H2 => v' = .non ∧ ∃ (d : Addr) (fs : List (Str × V)), H2 a = some (exo a C (some d)) ∧ H2 d = some (exd d fs) ∧ H1 d = none ∧ E (.ref C) (some d) (upd (del H2 a) d (.xd fs))) (fun _ _ _ => False) := by
  intro a ha
  refine ⟨a, C, v, rfl, X, no, upd_same, fun dx hdx hne => ⟨rfl, dx, [(("value" : Str), v)], upd_same, ?_, ?_, ?_⟩⟩
  · rw [upd_ne hne, upd_same]
  · rw [upd_ne hne] at hdx
    exact hdx
  · rw [upd_ne hne] at hdx
    refine h dx _ (fun b o hb => ?_) upd_same
    have h1 := ne_of_none hb ha
    have h2 := ne_of_none hb hdx
    rw [upd_ne h2, del_ne h1, upd_ne h1, upd_ne h2, upd_ne h1]
    exact hb
section
variable {P : Program} {w : World} {K : PySem.W.Frag} {mg : Str → Option Value} {base : Heap} {A : Ad}
theorem ok_SandError___init__ (T : Txt K mg A) : FnOk P w K mg base CX0 1 A.f_SandError___init__ A.d_SandError___init__ P_SandError___init__ (spErr K) := by
  refine T.F_SandError___init__.ok sc_SandError___init__ (fun vs H Q E h => ?_) (fun cdv A' outer s H vs Q E hr h => ?_)
  · obtain ⟨a, C, v, rfl, _⟩ := h
    rfl
  · obtain ⟨a, C, v, rfl, X, no, ha, kk⟩ := h
    refine ⟨_, (pss_one (ps_ost (pv 0) (pv 1))), ?_⟩
    exact ⟨_, rfl, _, rfl, a, C, rfl, X, no, .inl ⟨ha, fun dx h1 h2 => kk dx h1 h2⟩⟩
end
/-! ### data: values with what they hold -/
inductive D where
  | non | bl (b : Bool) | int (i : Int) | str (s : Str) | cls (C : Addr) | ty (n : String)
  | lst (ds : List D) | tup (ds : List D)
  /-- a list, a tuple that the frame did not make (the script; the module's) -/
  | fls (ds : List D) | ftp (ds : List D)
  | dic (es : List (List Key × D)) | dik (es : List (Key × D))
  | obj (C : Addr) (fs : List (Str × D))
mutual
def toPy : D → PyData
  | .non => .none
  | .bl b => .bool b
  | .int i => .int i
  | .str s => .str s
  | .lst ds => .list (toPys ds)
  | .tup ds => .tuple (toPys ds)
  | .fls ds => .list (toPys ds)
  | .ftp ds => .tuple (toPys ds)
  | _ => .dict []
def toPys : List D → List PyData
  | [] => []
  | d :: ds => toPy d :: toPys ds
end
mutual
/-- in the heap's part that never changes, x is d -/
inductive Rep (K : PySem.W.Frag) (I : Hp) : V → D → Prop
  | non : Rep K I .non .non
  | bl (b : Bool) : Rep K I (.bl b) (.bl b)
  | int (i : Int) : Rep K I (.int i) (.int i)
  | str (s : Str) : Rep K I (.str s) (.str s)
  | cls (C : Addr) : Rep K I (.ref C) (.cls C)
  | ty (n : String) : Rep K I (.ty n) (.ty n)
  | lst {a : Addr} {xs : List V} {ds : List D} : I a = some (.lst xs) → Reps K I xs ds → Rep K I (.ref a) (.lst ds)
  | fls {a : Addr} {xs : List V} {ds : List D} : SqL K I a xs → Reps K I xs ds → Rep K I (.ref a) (.fls ds)
  | tup {a : Addr} {xs : List V} {ds : List D} : I a = some (.tup xs) → Reps K I xs ds → Rep K I (.ref a) (.tup ds)
  | ftp {a : Addr} {xs : List V} {ds : List D} : SqT K I a xs → Reps K I xs ds → Rep K I (.ref a) (.ftp ds)
  | dic {a : Addr} {kvs : List (List Key × V)} {es : List (List Key × D)} : I a = some (.dT kvs) → kvs.map (·.1) = es.map (·.1) → Reps K I (kvs.map (·.2)) (es.map (·.2)) → Rep K I (.ref a) (.dic es)
  | dik {a : Addr} {kvs : List (Key × V)} {es : List (Key × D)} : I a = some (.dK kvs) → kvs.map (·.1) = es.map (·.1) → Reps K I (kvs.map (·.2)) (es.map (·.2)) → Rep K I (.ref a) (.dik es)
  | obj {a C dx : Addr} {fs : List (Str × V)} {es : List (Str × D)} : I a = some (.ins C dx fs) → fs.map (·.1) = es.map (·.1) → Reps K I (fs.map (·.2)) (es.map (·.2)) → Rep K I (.ref a) (.obj C es)
inductive Reps (K : PySem.W.Frag) (I : Hp) : List V → List D → Prop
  | nil : Reps K I [] []
  | cons {x : V} {xs : List V} {d : D} {ds : List D} : Rep K I x d → Reps K I xs ds → Reps K I (x :: xs) (d :: ds)
end
/-- I grows to I' -/
def Le (I I' : Hp) : Prop := ∀ a o, I a = some o → I' a = some o
theorem Le.refl {I : Hp} : Le I I := fun _ _ e => e
theorem Le.trans {I J L : Hp} (a : Le I J) (b : Le J L) : Le I L := fun x o e => b x o (a x o e)
theorem Le.new {I : Hp} {a : Addr} {o : HO} (h : I a = none) : Le I (upd I a o) := fun b u e => by
  rw [upd_ne (ne_of_none e h)]
  exact e
theorem Le.rd {I I' : Hp} {a : Addr} {u : HO} (e : Le I I') (h : Rd I a u) : Rd I' a u := by
  rcases h with h | ⟨o, h⟩
  · exact .inl (e _ _ h)
  · exact .inr ⟨o, e _ _ h⟩
theorem Le.sqL {K : PySem.W.Frag} {I I' : Hp} {a : Addr} {xs : List V} (e : Le I I') (h : SqL K I a xs) : SqL K I' a xs := by
  rcases h with h | h
  · exact .inl (e.rd h)
  · exact .inr h
theorem Le.sqT {K : PySem.W.Frag} {I I' : Hp} {a : Addr} {xs : List V} (e : Le I I') (h : SqT K I a xs) : SqT K I' a xs := by
  rcases h with h | h
  · exact .inl (e.rd h)
  · exact .inr h
mutual
theorem Rep.mono {K : PySem.W.Frag} {I I' : Hp} (e : Le I I') : ∀ {x : V} {d : D}, Rep K I x d → Rep K I' x d
  | _, _, .non => .non
  | _, _, .bl b => .bl b
  | _, _, .int i => .int i
  | _, _, .str s => .str s
  | _, _, .cls C => .cls C
  | _, _, .ty n => .ty n
  | _, _, .lst h r => .lst (e _ _ h) (Reps.mono e r)
  | _, _, .fls h r => .fls (e.sqL h) (Reps.mono e r)
  | _, _, .tup h r => .tup (e _ _ h) (Reps.mono e r)
  | _, _, .ftp h r => .ftp (e.sqT h) (Reps.mono e r)
  | _, _, .dic h k r => .dic (e _ _ h) k (Reps.mono e r)
  | _, _, .dik h k r => .dik (e _ _ h) k (Reps.mono e r)
  | _, _, .obj h k r => .obj (e _ _ h) k (Reps.mono e r)
theorem Reps.mono {K : PySem.W.Frag} {I I' : Hp} (e : Le I I') : ∀ {xs : List V} {ds : List D}, Reps K I xs ds → Reps K I' xs ds
  | _, _, .nil => .nil
  | _, _, .cons h r => .cons (Rep.mono e h) (Reps.mono e r)
end
theorem Reps.len {K : PySem.W.Frag} {I : Hp} : ∀ {xs : List V} {ds : List D}, Reps K I xs ds → xs.length = ds.length
  | _, _, .nil => rfl
  | _, _, .cons _ r => by rw [List.length_cons, List.length_cons, Reps.len r]
theorem Reps.get {K : PySem.W.Frag} {I : Hp} : ∀ {xs : List V} {ds : List D} {i : Nat} {d : D}, Reps K I xs ds → ds[i]? = some d → ∃ x, xs[i]? = some x ∧ Rep K I x d
  | _, _, i, d, .nil, e => by simp at e
  | _, _, 0, d, .cons h _, e => by
    simp at e
    subst e
    exact ⟨_, rfl, h⟩
  | _, _, i + 1, d, .cons _ r, e => by
    obtain ⟨x, h1, h2⟩ := Reps.get (i := i) (d := d) r (by simpa using e)
    exact ⟨x, by simpa using h1, h2⟩
theorem Reps.get' {K : PySem.W.Frag} {I : Hp} : ∀ {xs : List V} {ds : List D} {i : Nat} {x : V}, Reps K I xs ds → xs[i]? = some x → ∃ d, ds[i]? = some d ∧ Rep K I x d
  | _, _, i, d, .nil, e => by simp at e
  | _, _, 0, d, .cons h _, e => by
    simp at e
    subst e
    exact ⟨_, rfl, h⟩
  | _, _, i + 1, d, .cons _ r, e => by
    obtain ⟨x, h1, h2⟩ := Reps.get' (i := i) (x := d) r (by simpa using e)
    exact ⟨x, by simpa using h1, h2⟩
theorem Reps.app {K : PySem.W.Frag} {I : Hp} : ∀ {xs ys : List V} {ds es : List D}, Reps K I xs ds → Reps K I ys es → Reps K I (xs ++ ys) (ds ++ es)
  | _, _, _, _, .nil, h => h
  | _, _, _, _, .cons h r, s => .cons h (Reps.app r s)
theorem Reps.take {K : PySem.W.Frag} {I : Hp} : ∀ (n : Nat) {xs : List V} {ds : List D}, Reps K I xs ds → Reps K I (xs.take n) (ds.take n)
  | 0, _, _, _ => by rw [List.take_zero, List.take_zero]; exact .nil
  | _ + 1, _, _, .nil => .nil
  | n + 1, _, _, .cons h r => .cons h (Reps.take n r)
theorem Reps.drop {K : PySem.W.Frag} {I : Hp} : ∀ (n : Nat) {xs : List V} {ds : List D}, Reps K I xs ds → Reps K I (xs.drop n) (ds.drop n)
  | 0, _, _, h => h
  | _ + 1, _, _, .nil => .nil
  | n + 1, _, _, .cons _ r => Reps.drop n r
theorem Reps.set {K : PySem.W.Frag} {I : Hp} {x : V} {d : D} (h : Rep K I x d) : ∀ (n : Nat) {xs : List V} {ds : List D}, Reps K I xs ds → Reps K I (xs.set n x) (ds.set n d)
  | _, _, _, .nil => .nil
  | 0, _, _, .cons _ r => .cons h r
  | n + 1, _, _, .cons q r => .cons q (Reps.set h n r)
theorem Reps.rev {K : PySem.W.Frag} {I : Hp} : ∀ {xs : List V} {ds : List D}, Reps K I xs ds → Reps K I xs.reverse ds.reverse
  | _, _, .nil => .nil
  | _, _, .cons h r => by
    rw [List.reverse_cons, List.reverse_cons]
    exact (Reps.rev r).app (.cons h .nil)
mutual
theorem Rep.dp {K : PySem.W.Frag} {I : Hp} {n : Nat} : ∀ {x : V} {d : D}, Rep K I x d → okD n (toPy d) = true → Dp K I x (toPy d)
  | _, _, .non, _ => .non
  | _, _, .bl b, _ => .bl b
  | _, _, .int i, _ => .int i
  | _, _, .str s, _ => .str s
  | _, _, .cls _, h => by simp [toPy, okD] at h
  | _, _, .ty _, h => by simp [toPy, okD] at h
  | _, _, .lst h r, k => by
    cases n with
    | zero => simp [toPy, okD] at k
    | succ n =>
      rw [toPy, okD, Bool.and_eq_true] at k
      exact .lst (SqL.of h) (Reps.dp r k.2)
  | _, _, .fls h r, k => by
    cases n with
    | zero => simp [toPy, okD] at k
    | succ n =>
      rw [toPy, okD, Bool.and_eq_true] at k
      exact .lst h (Reps.dp r k.2)
  | _, _, .tup h r, k => by
    cases n with
    | zero => simp [toPy, okD] at k
    | succ n =>
      rw [toPy, okD, Bool.and_eq_true] at k
      exact .tup (SqT.of h) (Reps.dp r k.2)
  | _, _, .ftp h r, k => by
    cases n with
    | zero => simp [toPy, okD] at k
    | succ n =>
      rw [toPy, okD, Bool.and_eq_true] at k
      exact .tup h (Reps.dp r k.2)
  | _, _, .dic _ _ _, h => by simp [toPy, okD] at h
  | _, _, .dik _ _ _, h => by simp [toPy, okD] at h
  | _, _, .obj _ _ _, h => by simp [toPy, okD] at h
theorem Reps.dp {K : PySem.W.Frag} {I : Hp} {n : Nat} : ∀ {xs : List V} {ds : List D}, Reps K I xs ds → okDs n (toPys ds) = true → DpAll K I xs (toPys ds)
  | _, _, .nil, _ => .nil
  | _, _, .cons h r, k => by
    rw [toPys, okDs, Bool.and_eq_true] at k
    exact .cons (Rep.dp h k.1) (Reps.dp r k.2)
end
/-! ### what a frame's slots hold -/
inductive Ent where
  /-- a thing that never changes -/
  | imm (d : D)
  /-- a list or dict of this frame's alone, at a -/
  | own (a : Addr) (d : D)
  /-- the law's hand: what it holds is not told; drawn from at most n times -/
  | hand (p c : Addr) (n : Nat)
  /-- a list of things that are told elsewhere -/
  | raw (a : Addr) (xs : List V)
abbrev Ent.adr : Ent → List Addr
  | .imm _ => []
  | .own a _ => [a]
  | .hand p c _ => [p, c]
  | .raw a _ => [a]
abbrev En := List (Option Ent)
def adr (e : En) : List Addr := e.flatMap fun o => match o with
  | some x => x.adr
  | none => []
theorem mem_adr {e : En} {a : Addr} : a ∈ adr e ↔ ∃ (i : Nat) (x : Ent), e[i]? = some (some x) ∧ a ∈ x.adr := by
  unfold adr
  rw [List.mem_flatMap]
  constructor
  · rintro ⟨o, ho, ha⟩
    cases o with
    | none => simp at ha
    | some x =>
      obtain ⟨i, hi, e1⟩ := List.mem_iff_getElem.mp ho
      exact ⟨i, x, by rw [List.getElem?_eq_getElem hi, e1], ha⟩
  · rintro ⟨i, x, e1, ha⟩
    exact ⟨some x, List.mem_of_getElem? e1, ha⟩
def OwnR (K : PySem.W.Frag) (I H : Hp) (a : Addr) : D → Prop
  | .lst ds => ∃ xs, H a = some (.lst xs) ∧ Reps K I xs ds
  | .dic es => ∃ kvs, H a = some (.dT kvs) ∧ kvs.map (·.1) = es.map (·.1) ∧ Reps K I (kvs.map (·.2)) (es.map (·.2))
  | .dik es => ∃ kvs, H a = some (.dK kvs) ∧ kvs.map (·.1) = es.map (·.1) ∧ Reps K I (kvs.map (·.2)) (es.map (·.2))
  | _ => False
def EntR (K : PySem.W.Frag) (I H : Hp) (x : V) : Ent → Prop
  | .imm d => Rep K I x d
  | .own a d => x = .ref a ∧ I a = none ∧ OwnR K I H a d
  | .hand p c n => x = .ref p ∧ I p = none ∧ I c = none ∧ TokAt H p c n
  | .raw a xs => x = .ref a ∧ I a = none ∧ H a = some (.lst xs)
/-- I is part of H -/
def Sub (I H : Hp) : Prop := ∀ a o, I a = some o → H a = some o
theorem OwnR.has {K : PySem.W.Frag} {I H : Hp} {a : Addr} {d : D} (h : OwnR K I H a d) : ∃ o, H a = some o ∧ ∀ xs, o ≠ .tup xs := by
  cases d with
  | lst ds => obtain ⟨xs, e, _⟩ := h; exact ⟨_, e, fun _ z => nomatch z⟩
  | dic es => obtain ⟨xs, e, _⟩ := h; exact ⟨_, e, fun _ z => nomatch z⟩
  | dik es => obtain ⟨xs, e, _⟩ := h; exact ⟨_, e, fun _ z => nomatch z⟩
  | _ => exact False.elim h
theorem OwnR.mono {K : PySem.W.Frag} {I H I' H' : Hp} {a : Addr} {d : D} (h : OwnR K I H a d) (e : Le I I') (k : ∀ o, H a = some o → H' a = some o) : OwnR K I' H' a d := by
  cases d with
  | lst ds => obtain ⟨xs, q, r⟩ := h; exact ⟨xs, k _ q, r.mono e⟩
  | dic es => obtain ⟨xs, q, m, r⟩ := h; exact ⟨xs, k _ q, m, r.mono e⟩
  | dik es => obtain ⟨xs, q, m, r⟩ := h; exact ⟨xs, k _ q, m, r.mono e⟩
  | _ => exact False.elim h
theorem EntR.has {K : PySem.W.Frag} {I H : Hp} {x : V} {t : Ent} (h : EntR K I H x t) {a : Addr} (ha : a ∈ t.adr) : (∃ o, H a = some o ∧ ∀ xs, o ≠ .tup xs) ∧ I a = none := by
  cases t with
  | imm d => simp at ha
  | own b d =>
    obtain ⟨_, h1, h2⟩ := h
    simp at ha
    subst ha
    exact ⟨h2.has, h1⟩
  | raw b xs =>
    obtain ⟨_, h1, h2⟩ := h
    simp at ha
    subst ha
    exact ⟨⟨_, h2, fun _ z => nomatch z⟩, h1⟩
  | hand p c n =>
    obtain ⟨_, h1, h2, h3⟩ := h
    simp at ha
    rcases ha with rfl | rfl
    · obtain ⟨_, e⟩ := h3.tokp; exact ⟨⟨_, e, fun _ z => nomatch z⟩, h1⟩
    · obtain ⟨_, e⟩ := h3.tokc; exact ⟨⟨_, e, fun _ z => nomatch z⟩, h2⟩
theorem EntR.mono {K : PySem.W.Frag} {I H I' H' : Hp} {x : V} {t : Ent} (h : EntR K I H x t) (e : Le I I') (k : ∀ a ∈ t.adr, I' a = none ∧ ∀ o, H a = some o → H' a = some o) : EntR K I' H' x t := by
  cases t with
  | imm d => exact Rep.mono e h
  | own b d =>
    obtain ⟨h0, h1, h2⟩ := h
    exact ⟨h0, (k b (by simp)).1, h2.mono e (k b (by simp)).2⟩
  | raw b xs =>
    obtain ⟨h0, h1, h2⟩ := h
    exact ⟨h0, (k b (by simp)).1, (k b (by simp)).2 _ h2⟩
  | hand p c n =>
    obtain ⟨h0, h1, h2, h3⟩ := h
    exact ⟨h0, (k p (by simp)).1, (k c (by simp)).1, h3.keep (k p (by simp)).2 (k c (by simp)).2⟩
structure EnvR (K : PySem.W.Frag) (I H : Hp) (σ : L2.St) (e : En) : Prop where
  len : e.length = σ.length
  at_ : ∀ (i : Nat) (t : Ent), e[i]? = some (some t) → ∃ x, σ[i]? = some (some x) ∧ EntR K I H x t
  sep : ∀ (i j : Nat) (t u : Ent) (a : Addr), e[i]? = some (some t) → e[j]? = some (some u) → a ∈ t.adr → a ∈ u.adr → i = j
theorem EnvR.has {K : PySem.W.Frag} {I H : Hp} {σ : L2.St} {e : En} (h : EnvR K I H σ e) {a : Addr} (ha : a ∈ adr e) : (∃ o, H a = some o ∧ ∀ xs, o ≠ .tup xs) ∧ I a = none := by
  obtain ⟨i, t, e1, e2⟩ := mem_adr.mp ha
  obtain ⟨x, _, r⟩ := h.at_ i t e1
  exact r.has e2
/-- free, or a tuple -/
def FreeT (H : Hp) (a : Addr) : Prop := ∀ o, H a = some o → ∃ xs, o = .tup xs
theorem FreeT.of {H : Hp} {a : Addr} (h : H a = none) : FreeT H a := fun o q => by rw [h] at q; cases q
/-- from state to state -/
structure Step (e : En) (I H : Hp) (e' : En) (I' H' : Hp) : Prop where
  imm : Le I I'
  keep : ∀ a o, H a = some o → a ∉ adr e → H' a = some o
  own : ∀ a, a ∈ adr e' → a ∈ adr e ∨ H a = none
  new : ∀ a o, I' a = some o → I a = some o ∨ a ∈ adr e ∨ FreeT H a
theorem Step.refl {e : En} {I H : Hp} : Step e I H e I H := ⟨Le.refl, fun _ _ h _ => h, fun _ h => .inl h, fun _ _ h => .inl h⟩
theorem Step.free {e e1 : En} {I H I1 H1 : Hp} (s : Step e I H e1 I1 H1) {a : Addr} (h : H1 a = none) : a ∈ adr e ∨ H a = none := by
  cases q : H a with
  | none => exact .inr rfl
  | some o =>
    refine Classical.byContradiction fun z => ?_
    have := s.keep a o q fun y => z (.inl y)
    rw [h] at this
    cases this
theorem Step.trans {e e1 e2 : En} {I H I1 H1 I2 H2 : Hp} (s : Step e I H e1 I1 H1) (t : Step e1 I1 H1 e2 I2 H2) : Step e I H e2 I2 H2 where
  imm := s.imm.trans t.imm
  keep := fun a o h n => t.keep a o (s.keep a o h n) fun z => by
    rcases s.own a z with q | q
    · exact n q
    · rw [h] at q; cases q
  own := fun a h => by
    rcases t.own a h with q | q
    · exact s.own a q
    · exact s.free q
  new := fun a o h => by
    rcases t.new a o h with q | q | q
    · exact s.new a o q
    · rcases s.own a q with q | q
      · exact .inr (.inl q)
      · exact .inr (.inr (.of q))
    · refine Classical.or_iff_not_imp_left.mpr fun _ => Classical.or_iff_not_imp_left.mpr fun n u hu => q u (s.keep a u hu n)
/-- a thing beside the frame's own stays -/
theorem EntR.step {K : PySem.W.Frag} {e e' : En} {I H I' H' : Hp} {x : V} {t : Ent} (h : EntR K I H x t) (s : Step e I H e' I' H') (n : ∀ a ∈ t.adr, a ∉ adr e) : EntR K I' H' x t ∧ ∀ a ∈ t.adr, a ∉ adr e' := by
  refine ⟨h.mono s.imm fun a ha => ⟨?_, fun o q => s.keep a o q (n a ha)⟩, fun a ha z => ?_⟩
  · obtain ⟨⟨o, q1, qt⟩, q2⟩ := h.has ha
    cases q : I' a with
    | none => rfl
    | some u =>
      rcases s.new a u q with z | z | z
      · rw [q2] at z; cases z
      · exact absurd z (n a ha)
      · obtain ⟨xs, e⟩ := z o q1
        exact absurd e (qt xs)
  · obtain ⟨⟨o, q1, qt⟩, q2⟩ := h.has ha
    rcases s.own a z with z | z
    · exact n a ha z
    · rw [q1] at z; cases z
/-! ### states -/
section
variable {K : PySem.W.Frag} {I H I' H' : Hp} {σ : L2.St} {e : En}
theorem adr_app (e c : En) : adr (e ++ c) = adr e ++ adr c := List.flatMap_append ..
theorem adr_one (o : Option Ent) : adr [o] = (match o with | some t => t.adr | none => []) := by
  unfold adr
  cases o <;> exact List.append_nil _
theorem mem_push {e : En} {o : Option Ent} {a : Addr} : a ∈ adr (e ++ [o]) ↔ a ∈ adr e ∨ ∃ t, o = some t ∧ a ∈ t.adr := by
  rw [adr_app, List.mem_append, adr_one]
  cases o with
  | none => simp
  | some t => simp
theorem EnvR.push {x : V} {t : Ent} (h : EnvR K I H σ e) (r : EntR K I H x t) (n : ∀ a ∈ t.adr, a ∉ adr e) : EnvR K I H (σ ++ [some x]) (e ++ [some t]) where
  len := by rw [List.length_append, List.length_append, h.len]; rfl
  at_ := fun i u q => by
    by_cases hi : i < e.length
    · rw [List.getElem?_append_left hi] at q
      obtain ⟨y, e1, e2⟩ := h.at_ i u q
      exact ⟨y, by rw [List.getElem?_append_left (by rw [← h.len]; exact hi)]; exact e1, e2⟩
    · rw [List.getElem?_append_right (by omega)] at q
      have hl := (List.getElem?_eq_some_iff.mp q).1
      have h0 : i - e.length = 0 := by simp at hl; omega
      rw [h0] at q
      cases q
      exact ⟨x, by rw [List.getElem?_append_right (by rw [← h.len]; omega), ← h.len, h0]; rfl, r⟩
  sep := fun i j u v a q1 q2 m1 m2 => by
    have last : ∀ {i : Nat} {u : Ent}, (e ++ [some t])[i]? = some (some u) → (i < e.length ∧ e[i]? = some (some u)) ∨ (i = e.length ∧ u = t) := fun {i u} q => by
      by_cases hi : i < e.length
      · rw [List.getElem?_append_left hi] at q
        exact .inl ⟨hi, q⟩
      · rw [List.getElem?_append_right (by omega)] at q
        have hl := (List.getElem?_eq_some_iff.mp q).1
        have h0 : i - e.length = 0 := by simp at hl; omega
        rw [h0] at q
        cases q
        exact .inr ⟨by omega, rfl⟩
    rcases last q1 with ⟨_, c1⟩ | ⟨c1, rfl⟩ <;> rcases last q2 with ⟨_, c2⟩ | ⟨c2, rfl⟩
    · exact h.sep i j u v a c1 c2 m1 m2
    · exact absurd (mem_adr.mpr ⟨i, u, c1, m1⟩) (n a m2)
    · exact absurd (mem_adr.mpr ⟨j, v, c2, m2⟩) (n a m1)
    · omega
theorem EnvR.pushN {y : Option V} (h : EnvR K I H σ e) : EnvR K I H (σ ++ [y]) (e ++ [none]) where
  len := by rw [List.length_append, List.length_append, h.len]; rfl
  at_ := fun i u q => by
    by_cases hi : i < e.length
    · rw [List.getElem?_append_left hi] at q
      obtain ⟨y, e1, e2⟩ := h.at_ i u q
      exact ⟨y, by rw [List.getElem?_append_left (by rw [← h.len]; exact hi)]; exact e1, e2⟩
    · rw [List.getElem?_append_right (by omega)] at q
      have hl := (List.getElem?_eq_some_iff.mp q).1
      have h0 : i - e.length = 0 := by simp at hl; omega
      rw [h0] at q
      cases q
  sep := fun i j u v a q1 q2 m1 m2 => by
    have last : ∀ {i : Nat} {u : Ent}, (e ++ [none])[i]? = some (some u) → e[i]? = some (some u) := fun {i u} q => by
      by_cases hi : i < e.length
      · rw [List.getElem?_append_left hi] at q
        exact q
      · rw [List.getElem?_append_right (by omega)] at q
        have hl := (List.getElem?_eq_some_iff.mp q).1
        have h0 : i - e.length = 0 := by simp at hl; omega
        rw [h0] at q
        cases q
    exact h.sep i j u v a (last q1) (last q2) m1 m2
/-- the first part -/
theorem EnvR.pre {σ' : L2.St} {c : En} (hl : e.length = σ.length) (h : EnvR K I H (σ ++ σ') (e ++ c)) : EnvR K I H σ e where
  len := hl
  at_ := fun i u q => by
    have hi := (List.getElem?_eq_some_iff.mp q).1
    obtain ⟨y, e1, e2⟩ := h.at_ i u (by rw [List.getElem?_append_left hi]; exact q)
    exact ⟨y, by rw [List.getElem?_append_left (by omega)] at e1; exact e1, e2⟩
  sep := fun i j u v a q1 q2 m1 m2 => by
    have h1 := (List.getElem?_eq_some_iff.mp q1).1
    have h2 := (List.getElem?_eq_some_iff.mp q2).1
    exact h.sep i j u v a (by rw [List.getElem?_append_left h1]; exact q1) (by rw [List.getElem?_append_left h2]; exact q2) m1 m2
theorem EnvR.set {i : Nat} {x : V} {t : Ent} (h : EnvR K I H σ e) (hi : i < e.length) (r : EntR K I H x t) (n : ∀ a ∈ t.adr, ∀ j u, j ≠ i → e[j]? = some (some u) → a ∉ u.adr) : EnvR K I H (σ.set i (some x)) (e.set i (some t)) where
  len := by rw [List.length_set, List.length_set, h.len]
  at_ := fun j u q => by
    by_cases hj : j = i
    · subst hj
      rw [List.getElem?_set_self hi] at q
      cases q
      exact ⟨x, List.getElem?_set_self (by rw [← h.len]; exact hi), r⟩
    · rw [List.getElem?_set_ne (Ne.symm hj)] at q
      obtain ⟨y, e1, e2⟩ := h.at_ j u q
      exact ⟨y, by rw [List.getElem?_set_ne (Ne.symm hj)]; exact e1, e2⟩
  sep := fun j k u v a q1 q2 m1 m2 => by
    by_cases hj : j = i <;> by_cases hk : k = i
    · omega
    · subst hj
      rw [List.getElem?_set_self hi] at q1
      cases q1
      rw [List.getElem?_set_ne (Ne.symm hk)] at q2
      exact absurd m2 (n a m1 k v hk q2)
    · subst hk
      rw [List.getElem?_set_self hi] at q2
      cases q2
      rw [List.getElem?_set_ne (Ne.symm hj)] at q1
      exact absurd m1 (n a m2 j u hj q1)
    · rw [List.getElem?_set_ne (Ne.symm hj)] at q1
      rw [List.getElem?_set_ne (Ne.symm hk)] at q2
      exact h.sep j k u v a q1 q2 m1 m2
theorem EnvR.setN {i : Nat} {y : Option V} (h : EnvR K I H σ e) : EnvR K I H (σ.set i y) (e.set i none) where
  len := by rw [List.length_set, List.length_set, h.len]
  at_ := fun j u q => by
    by_cases hj : j = i
    · subst hj
      have hl := (List.getElem?_eq_some_iff.mp q).1
      rw [List.length_set] at hl
      rw [List.getElem?_set_self hl] at q
      cases q
    · rw [List.getElem?_set_ne (Ne.symm hj)] at q
      obtain ⟨y, e1, e2⟩ := h.at_ j u q
      exact ⟨y, by rw [List.getElem?_set_ne (Ne.symm hj)]; exact e1, e2⟩
  sep := fun j k u v a q1 q2 m1 m2 => by
    have go : ∀ {j : Nat} {u : Ent}, (e.set i none)[j]? = some (some u) → e[j]? = some (some u) := fun {j u} q => by
      by_cases hj : j = i
      · subst hj
        have hl := (List.getElem?_eq_some_iff.mp q).1
        rw [List.length_set] at hl
        rw [List.getElem?_set_self hl] at q
        cases q
      · rw [List.getElem?_set_ne (Ne.symm hj)] at q
        exact q
    exact h.sep j k u v a (go q1) (go q2) m1 m2
/-- the things held stay -/
theorem EnvR.grow (h : EnvR K I H σ e) (le : Le I I') (k : ∀ a ∈ adr e, I' a = none ∧ ∀ o, H a = some o → H' a = some o) : EnvR K I' H' σ e :=
  ⟨h.len, fun i t q => by
    obtain ⟨x, e1, e2⟩ := h.at_ i t q
    exact ⟨x, e1, e2.mono le fun a ha => k a (mem_adr.mpr ⟨i, t, q, ha⟩)⟩, h.sep⟩
end
inductive Rv where
  | ent (t : Ent) | slot (i : Nat)
abbrev Rv.o : Rv → Option Ent
  | .ent t => some t
  | .slot _ => none
abbrev Rv.im (d : D) : Rv := .ent (.imm d)
abbrev Tm := List (V × Rv)
def tv (ps : Tm) : L2.St := ps.map fun p => some p.1
def tn (ps : Tm) : En := ps.map fun p => p.2.o
theorem tv_app (ps qs : Tm) : tv (ps ++ qs) = tv ps ++ tv qs := List.map_append ..
theorem tn_app (ps qs : Tm) : tn (ps ++ qs) = tn ps ++ tn qs := List.map_append ..
/-- a frame: the start, what is wanted of an exception -/
structure Fr where
  K : PySem.W.Frag
  e0 : En
  I0 : Hp
  H0 : Hp
  W : WX
  PX : Addr → D → En → Prop
structure ST (F : Fr) (σ : L2.St) (I H : Hp) (e : En) (ps : Tm) : Prop where
  sub : Sub I H
  len : e.length = σ.length
  env : EnvR F.K I H (σ ++ tv ps) (e ++ tn ps)
  ali : ∀ p ∈ ps, ∀ i, p.2 = .slot i → σ[i]? = some (some p.1) ∧ ∃ t, e[i]? = some (some t)
  base : Step F.e0 F.I0 F.H0 (e ++ tn ps) I H
abbrev EvF := En → (Rv → En → Prop) → Prop
def DT (F : Fr) (t : TE) (f : EvF) : Prop := ∀ (σ : L2.St) (I H : Hp) (e : En) (ps : Tm) (P : Rv → En → Prop) (Q : VK), ST F σ I H e ps → f e P →
  (∀ x r e' I' H', P r e' → ST F σ I' H' e' (ps ++ [(x, r)]) → Q x H') → t σ H Q
abbrev EvT := En → (Bool → En → Prop) → Prop
def DTT (F : Fr) (t : TT) (f : EvT) : Prop := ∀ (σ : L2.St) (I H : Hp) (e : En) (ps : Tm) (P : Bool → En → Prop) (Q : Bool → Hp → Prop), ST F σ I H e ps → f e P →
  (∀ b e' I' H', P b e' → ST F σ I' H' e' ps → Q b H') → t σ H Q
abbrev EvA := En → (List Rv → En → Prop) → Prop
def DTA (F : Fr) (t : TA) (f : EvA) : Prop := ∀ (σ : L2.St) (I H : Hp) (e : En) (ps : Tm) (P : List Rv → En → Prop) (Q : List V → Hp → Prop), ST F σ I H e ps → f e P →
  (∀ xs rs e' I' H', P rs e' → xs.length = rs.length → ST F σ I' H' e' (ps ++ xs.zip rs) → Q xs H') → t σ H Q
section
variable {F : Fr} {σ : L2.St} {I H I' H' : Hp} {e : En} {ps qs : Tm}
theorem ST.weak (s : ST F σ I H e (ps ++ qs)) : ST F σ I H e ps where
  sub := s.sub
  len := s.len
  env := by
    have h := s.env
    rw [tv_app, tn_app, ← List.append_assoc, ← List.append_assoc] at h
    refine EnvR.pre ?_ h
    rw [List.length_append, List.length_append, s.len]
    unfold tv tn
    rw [List.length_map, List.length_map]
  ali := fun p hp => s.ali p (List.mem_append_left _ hp)
  base := by
    have b := s.base
    rw [tn_app, ← List.append_assoc] at b
    exact ⟨b.imm, b.keep, fun a h => b.own a (by rw [adr_app]; exact List.mem_append_left _ h), b.new⟩
theorem ST.pushE {x : V} {t : Ent} (s : ST F σ I H e ps) (r : EntR F.K I H x t) (n : ∀ a ∈ t.adr, a ∉ adr (e ++ tn ps) ∧ (a ∈ adr F.e0 ∨ F.H0 a = none)) : ST F σ I H e (ps ++ [(x, .ent t)]) where
  sub := s.sub
  len := s.len
  env := by
    have h := s.env.push r fun a ha => (n a ha).1
    rw [tv_app, tn_app, ← List.append_assoc, ← List.append_assoc]
    exact h
  ali := fun p hp => by
    rcases List.mem_append.mp hp with h | h
    · exact s.ali p h
    · rw [List.mem_singleton] at h
      subst h
      intro i z
      cases z
  base := by
    have b := s.base
    rw [tn_app, ← List.append_assoc]
    refine ⟨b.imm, b.keep, fun a h => ?_, b.new⟩
    rcases mem_push.mp h with h | ⟨u, e1, h⟩
    · exact b.own a h
    · cases e1
      exact (n a h).2
theorem ST.pushI {x : V} {d : D} (s : ST F σ I H e ps) (r : Rep F.K I x d) : ST F σ I H e (ps ++ [(x, .im d)]) := s.pushE (t := .imm d) r fun a h => by simp at h
theorem ST.pushS {x : V} {i : Nat} {t : Ent} (s : ST F σ I H e ps) (r : σ[i]? = some (some x)) (ht : e[i]? = some (some t)) : ST F σ I H e (ps ++ [(x, .slot i)]) where
  sub := s.sub
  len := s.len
  env := by
    have h := s.env.pushN (y := some x)
    rw [tv_app, tn_app, ← List.append_assoc, ← List.append_assoc]
    exact h
  ali := fun p hp => by
    rcases List.mem_append.mp hp with h | h
    · exact s.ali p h
    · rw [List.mem_singleton] at h
      subst h
      intro j z
      cases z
      exact ⟨r, t, ht⟩
  base := by
    have b := s.base
    rw [tn_app, ← List.append_assoc]
    refine ⟨b.imm, b.keep, fun a h => ?_, b.new⟩
    rcases mem_push.mp h with h | ⟨u, e1, h⟩
    · exact b.own a h
    · cases e1
/-- the heap grows beside -/
structure Grow (I H I' H' : Hp) : Prop where
  le : Le I I'
  same : Le H H'
  sub : Sub I' H'
  new : ∀ a o, I' a = some o → I a = some o ∨ FreeT H a
theorem Grow.refl (s : Sub I H) : Grow I H I H := ⟨Le.refl, Le.refl, s, fun _ _ h => .inl h⟩
theorem Grow.trans {I1 H1 : Hp} (g : Grow I H I1 H1) (k : Grow I1 H1 I' H') : Grow I H I' H' := ⟨g.le.trans k.le, g.same.trans k.same, k.sub, fun a o h => by
  rcases k.new a o h with q | q
  · exact g.new a o q
  · exact .inr fun u hu => q u (g.same a u hu)⟩
theorem Grow.alloc {q : Addr} {o : HO} (s : Sub I H) (h : H q = none) : Grow I H I (upd H q o) := ⟨Le.refl, Le.new h, fun a u z => Le.new h a u (s a u z), fun _ _ z => .inl z⟩
theorem Sub.none (s : Sub I H) {a : Addr} (h : H a = none) : I a = none := by
  cases q : I a with
  | none => rfl
  | some o => rw [s a o q] at h; cases h
theorem Grow.allocI {q : Addr} {o : HO} (s : Sub I H) (h : H q = none) : Grow I H (upd I q o) (upd H q o) := by
  refine ⟨Le.new (s.none h), Le.new h, fun a u z => ?_, fun a u z => ?_⟩
  · by_cases c : a = q
    · subst c
      rw [upd_same] at z ⊢
      exact z
    · rw [upd_ne c] at z ⊢
      exact s a u z
  · by_cases c : a = q
    · subst c
      exact .inr (.of h)
    · rw [upd_ne c] at z
      exact .inl z
theorem ST.grow (s : ST F σ I H e ps) (g : Grow I H I' H') : ST F σ I' H' e ps where
  sub := g.sub
  len := s.len
  env := s.env.grow g.le fun a ha => by
    obtain ⟨⟨o, h1, ht⟩, h2⟩ := s.env.has ha
    refine ⟨?_, fun u q => g.same a u q⟩
    cases z : I' a with
    | none => rfl
    | some u =>
      rcases g.new a u z with q | q
      · rw [h2] at q; cases q
      · obtain ⟨xs, e⟩ := q o h1
        exact absurd e (ht xs)
  ali := s.ali
  base := s.base.trans ⟨g.le, fun a o h _ => g.same a o h, fun a h => .inl h, fun a o h => by
    rcases g.new a o h with q | q
    · exact .inl q
    · exact .inr (.inr q)⟩
/-- a new own thing -/
theorem ST.fresh (s : ST F σ I H e ps) {a : Addr} (h : H a = none) : a ∉ adr (e ++ tn ps) ∧ (a ∈ adr F.e0 ∨ F.H0 a = none)  := by
  refine ⟨fun z => ?_, s.base.free h⟩
  obtain ⟨⟨o, q, _⟩, _⟩ := s.env.has z
  rw [h] at q; cases q
theorem ST.pushG {x : V} {t : Ent} (s : ST F σ I H e ps) (g : Grow I H I' H') (r : EntR F.K I' H' x t) (n : ∀ a ∈ t.adr, H a = none) : ST F σ I' H' e (ps ++ [(x, .ent t)]) :=
  (s.grow g).pushE r fun a ha => s.fresh (n a ha)
end
/-! ### what a value holds -/
/-- x is d, by itself or as an own thing -/
def VwR (K : PySem.W.Frag) (I H : Hp) (x : V) (d : D) : Prop := Rep K I x d ∨ ∃ a, x = .ref a ∧ OwnR K I H a d
def val (e : En) : Rv → Option D
  | .ent (.imm d) => some d
  | .ent (.own _ d) => some d
  | .slot i => match e[i]? with
    | some (some (.imm d)) => some d
    | some (some (.own _ d)) => some d
    | _ => none
  | _ => none
theorem tm_at {σ : L2.St} {e : En} {ps qs : Tm} {x : V} {r : Rv} (hl : e.length = σ.length) : (σ ++ tv (ps ++ (x, r) :: qs))[σ.length + ps.length]? = some (some x) ∧ (e ++ tn (ps ++ (x, r) :: qs))[σ.length + ps.length]? = some r.o := by
  constructor
  · rw [List.getElem?_append_right (by omega)]
    unfold tv
    rw [List.getElem?_map, show σ.length + ps.length - σ.length = ps.length by omega, List.getElem?_append_right (by omega)]
    simp
  · rw [List.getElem?_append_right (by omega)]
    unfold tn
    rw [List.getElem?_map, show σ.length + ps.length - e.length = ps.length by omega, List.getElem?_append_right (by omega)]
    simp
section
variable {F : Fr} {σ : L2.St} {I H I' H' : Hp} {e : En} {ps qs : Tm}
theorem ST.temp {x : V} {t : Ent} (s : ST F σ I H e (ps ++ (x, .ent t) :: qs)) : EntR F.K I H x t := by
  obtain ⟨h1, h2⟩ := tm_at (ps := ps) (qs := qs) (x := x) (r := .ent t) s.len
  obtain ⟨y, e1, e2⟩ := s.env.at_ _ t h2
  rw [h1] at e1
  cases e1
  exact e2
theorem ST.slot {i : Nat} {t : Ent} (s : ST F σ I H e ps) (h : e[i]? = some (some t)) : ∃ x, σ[i]? = some (some x) ∧ EntR F.K I H x t := by
  have hi := (List.getElem?_eq_some_iff.mp h).1
  obtain ⟨x, e1, e2⟩ := s.env.at_ i t (by rw [List.getElem?_append_left hi]; exact h)
  rw [List.getElem?_append_left (by rw [← s.len]; exact hi)] at e1
  exact ⟨x, e1, e2⟩
theorem EntR.vw {K : PySem.W.Frag} {x : V} {t : Ent} {d : D} (h : EntR K I H x t) (e : t = .imm d ∨ ∃ a, t = .own a d) : VwR K I H x d := by
  rcases e with rfl | ⟨a, rfl⟩
  · exact .inl h
  · exact .inr ⟨a, h.1, h.2.2⟩
theorem ST.vw {x : V} {r : Rv} {d : D} (s : ST F σ I H e (ps ++ (x, r) :: qs)) (h : val e r = some d) : VwR F.K I H x d := by
  cases r with
  | ent t =>
    refine s.temp.vw ?_
    cases t with
    | imm d' => cases h; exact .inl rfl
    | own a d' => cases h; exact .inr ⟨a, rfl⟩
    | hand p c n => cases h
    | raw a xs => cases h
  | slot i =>
    have ha := (s.ali (x, .slot i) (by simp) i rfl).1
    unfold val at h
    dsimp only at h
    split at h
    · rename_i d' q
      cases h
      obtain ⟨y, e1, e2⟩ := s.slot q
      rw [ha] at e1
      cases e1
      exact .inl e2
    · rename_i a d' q
      cases h
      obtain ⟨y, e1, e2⟩ := s.slot q
      rw [ha] at e1
      cases e1
      exact .inr ⟨a, e2.1, e2.2.2⟩
    · cases h
end
/-! ### a thing of one's own becomes one that never changes -/
def frz (e : En) : Rv → Option (D × En)
  | .ent (.imm d) => some (d, e)
  | .ent (.own _ d) => some (d, e)
  | .slot i => match e[i]? with
    | some (some (.imm d)) => some (d, e)
    | some (some (.own _ d)) => some (d, e.set i (some (.imm d)))
    | _ => none
  | _ => none
def frzs (e : En) : List Rv → Option (List D × En)
  | [] => some ([], e)
  | r :: rs => match frz e r with
    | some (d, e1) => match frzs e1 rs with
      | some (ds, e2) => some (d :: ds, e2)
      | none => none
    | none => none
theorem OwnR.frz {K : PySem.W.Frag} {I H : Hp} {a : Addr} {d : D} (h : OwnR K I H a d) (n : I a = none) : ∃ o, H a = some o ∧ Rep K (upd I a o) (.ref a) d := by
  have le : ∀ {o}, Le I (upd I a o) := Le.new n
  cases d with
  | lst ds => obtain ⟨xs, q, r⟩ := h; exact ⟨_, q, .lst upd_same (r.mono le)⟩
  | dic es => obtain ⟨xs, q, m, r⟩ := h; exact ⟨_, q, .dic upd_same m (r.mono le)⟩
  | dik es => obtain ⟨xs, q, m, r⟩ := h; exact ⟨_, q, .dik upd_same m (r.mono le)⟩
  | _ => exact False.elim h
theorem EnvR.frz {K : PySem.W.Frag} {I H : Hp} {σ : L2.St} {c : En} {i : Nat} {x : V} {a : Addr} {d : D} (h : EnvR K I H σ c) (hx : σ[i]? = some (some x)) (q : c[i]? = some (some (.own a d))) :
    ∃ o, H a = some o ∧ I a = none ∧ EnvR K (upd I a o) H σ (c.set i (some (.imm d))) ∧ Rep K (upd I a o) x d := by
  obtain ⟨y, e1, rfl, n, w⟩ := h.at_ i _ q
  rw [hx] at e1
  cases e1
  obtain ⟨o, ho, rp⟩ := w.frz n
  have hi := (List.getElem?_eq_some_iff.mp q).1
  refine ⟨o, ho, n, ⟨by rw [List.length_set]; exact h.len, fun j u z => ?_, fun j k u v b z1 z2 m1 m2 => ?_⟩, rp⟩
  · by_cases hj : j = i
    · subst hj
      rw [List.getElem?_set_self hi] at z
      cases z
      exact ⟨_, hx, rp⟩
    · rw [List.getElem?_set_ne (Ne.symm hj)] at z
      obtain ⟨y, e1, e2⟩ := h.at_ j u z
      refine ⟨y, e1, e2.mono (Le.new n) fun b hb => ⟨?_, fun _ w => w⟩⟩
      have hba : b ≠ a := fun w => by
        subst w
        exact hj (h.sep j i u _ b z q hb (by simp))
      rw [upd_ne hba]
      exact (e2.has hb).2
  · by_cases hj : j = i
    · subst hj
      rw [List.getElem?_set_self hi] at z1
      cases z1
      simp at m1
    · by_cases hk : k = i
      · subst hk
        rw [List.getElem?_set_self hi] at z2
        cases z2
        simp at m2
      · rw [List.getElem?_set_ne (Ne.symm hj)] at z1
        rw [List.getElem?_set_ne (Ne.symm hk)] at z2
        exact h.sep j k u v b z1 z2 m1 m2
theorem adr_set_imm {c : En} {i : Nat} {d : D} {b : Addr} (h : b ∈ adr (c.set i (some (.imm d)))) : b ∈ adr c := by
  obtain ⟨j, u, q, m⟩ := mem_adr.mp h
  by_cases hj : j = i
  · subst hj
    have hl := (List.getElem?_eq_some_iff.mp q).1
    rw [List.length_set] at hl
    rw [List.getElem?_set_self hl] at q
    cases q
    simp at m
  · rw [List.getElem?_set_ne (Ne.symm hj)] at q
    exact mem_adr.mpr ⟨j, u, q, m⟩
theorem Step.frz {e0 c : En} {I0 H0 I H : Hp} {i : Nat} {a : Addr} {d : D} {o : HO} (s : Step e0 I0 H0 c I H) (q : c[i]? = some (some (.own a d))) (n : I a = none) : Step e0 I0 H0 (c.set i (some (.imm d))) (upd I a o) H :=
  s.trans ⟨Le.new n, fun _ _ h _ => h, fun b h => .inl (adr_set_imm h), fun b u h => by
    by_cases hb : b = a
    · subst hb
      exact .inr (.inl (mem_adr.mpr ⟨i, _, q, by simp⟩))
    · rw [upd_ne hb] at h
      exact .inl h⟩
theorem alive_set {e : En} {i j : Nat} {u : Ent} (h : ∃ t, e[j]? = some (some t)) : ∃ t, (e.set i (some u))[j]? = some (some t) := by
  obtain ⟨t, h⟩ := h
  by_cases hj : j = i
  · subst hj
    exact ⟨u, List.getElem?_set_self (List.getElem?_eq_some_iff.mp h).1⟩
  · exact ⟨t, by rw [List.getElem?_set_ne (Ne.symm hj)]; exact h⟩
theorem tn_set {σ : L2.St} {e : En} {ps qs : Tm} {x : V} {r r' : Rv} (hl : e.length = σ.length) : (e ++ tn (ps ++ (x, r) :: qs)).set (σ.length + ps.length) r'.o = e ++ tn (ps ++ (x, r') :: qs) := by
  have z : (e ++ tn ps).length = σ.length + ps.length := by
    rw [List.length_append, hl]
    unfold tn
    rw [List.length_map]
  have k : ∀ r : Rv, tn (ps ++ (x, r) :: qs) = tn ps ++ r.o :: tn qs := fun r => by rw [tn_app]; rfl
  rw [k, k, ← List.append_assoc, ← List.append_assoc, List.set_append_right _ _ (by omega), z, Nat.sub_self]
  rfl
theorem tv_eq {ps qs : Tm} {x : V} {r r' : Rv} : tv (ps ++ (x, r) :: qs) = tv (ps ++ (x, r') :: qs) := by
  rw [tv_app, tv_app]
  rfl
section
variable {F : Fr} {σ : L2.St} {I H I' H' : Hp} {e e' : En} {ps qs : Tm}
/-- a value that never changes, in the place of what was told of it -/
theorem ST.immAt {x : V} {r : Rv} {d : D} (s : ST F σ I H e (ps ++ (x, r) :: qs)) (h : Rep F.K I x d) : ST F σ I H e (ps ++ (x, .im d) :: qs) where
  sub := s.sub
  len := s.len
  env := by
    obtain ⟨h1, h2⟩ := tm_at (ps := ps) (qs := qs) (x := x) (r := r) s.len
    have z := s.env.set (i := σ.length + ps.length) (x := x) (t := .imm d) (List.getElem?_eq_some_iff.mp h2).1 h fun a ha => by simp at ha
    rw [show some (Ent.imm d) = (Rv.im d).o from rfl, tn_set s.len] at z
    have w : (σ ++ tv (ps ++ (x, r) :: qs)).set (σ.length + ps.length) (some x) = σ ++ tv (ps ++ (x, .im d) :: qs) := by
      rw [tv_eq (r' := .im d)]
      refine List.ext_getElem? fun j => ?_
      by_cases hj : j = σ.length + ps.length
      · subst hj
        have g := (tm_at (ps := ps) (qs := qs) (x := x) (r := .im d) s.len).1
        rw [List.getElem?_set_self (List.getElem?_eq_some_iff.mp g).1, g]
      · rw [List.getElem?_set_ne (Ne.symm hj)]
    rw [w] at z
    exact z
  ali := fun p hp i q => by
    rcases List.mem_append.mp hp with m | m
    · exact s.ali p (List.mem_append_left _ m) i q
    · rcases List.mem_cons.mp m with m | m
      · subst m; cases q
      · exact s.ali p (List.mem_append_right _ (List.mem_cons_of_mem _ m)) i q
  base := by
    have b := s.base
    refine ⟨b.imm, b.keep, fun a ha => b.own a ?_, b.new⟩
    rw [← tn_set s.len (r := r)] at ha
    exact adr_set_imm ha
theorem ST.frz {x : V} {r : Rv} {d : D} (s : ST F σ I H e (ps ++ (x, r) :: qs)) (h : frz e r = some (d, e')) : ∃ I', Le I I' ∧ ST F σ I' H e' (ps ++ (x, .im d) :: qs) := by
  cases r with
  | ent t =>
    cases t with
    | imm d' => cases h; exact ⟨I, Le.refl, s⟩
    | hand p c n => cases h
    | raw a xs => cases h
    | own a d' =>
      cases h
      obtain ⟨h1, h2⟩ := tm_at (ps := ps) (qs := qs) (x := x) (r := .ent (.own a d)) s.len
      obtain ⟨o, ho, n, z, rp⟩ := s.env.frz h1 h2
      refine ⟨upd I a o, Le.new n, ?_⟩
      have b := s.base.frz (o := o) h2 n
      rw [show some (Ent.imm d) = (Rv.im d).o from rfl, tn_set s.len] at z b
      rw [tv_eq (r' := .im d)] at z
      refine ⟨fun b u q => ?_, s.len, z, fun p hp i q => ?_, b⟩
      · by_cases hb : b = a
        · subst hb; rw [upd_same] at q; rw [ho, q]
        · rw [upd_ne hb] at q; exact s.sub b u q
      · rcases List.mem_append.mp hp with m | m
        · exact s.ali p (List.mem_append_left _ m) i q
        · rcases List.mem_cons.mp m with m | m
          · subst m; cases q
          · exact s.ali p (List.mem_append_right _ (List.mem_cons_of_mem _ m)) i q
  | slot i =>
    have ha := (s.ali (x, .slot i) (by simp) i rfl).1
    unfold TK.frz at h
    dsimp only at h
    split at h
    · rename_i d' q
      cases h
      obtain ⟨y, e1, e2⟩ := s.slot q
      rw [ha] at e1
      cases e1
      exact ⟨I, Le.refl, s.immAt e2⟩
    · rename_i a d' q
      cases h
      have hi := (List.getElem?_eq_some_iff.mp q).1
      have q' : (e ++ tn (ps ++ (x, .slot i) :: qs))[i]? = some (some (.own a d)) := by rw [List.getElem?_append_left hi]; exact q
      have ha' : (σ ++ tv (ps ++ (x, .slot i) :: qs))[i]? = some (some x) := by rw [List.getElem?_append_left (by rw [← s.len]; exact hi)]; exact ha
      obtain ⟨o, ho, n, z, rp⟩ := s.env.frz ha' q'
      have b := s.base.frz (o := o) q' n
      rw [List.set_append_left _ _ hi] at z b
      refine ⟨upd I a o, Le.new n, ST.immAt (r := .slot i) ⟨fun b u q => ?_, by rw [List.length_set]; exact s.len, z, fun p hp j w => ⟨(s.ali p hp j w).1, alive_set (s.ali p hp j w).2⟩, b⟩ rp⟩
      by_cases hb : b = a
      · subst hb; rw [upd_same] at q; rw [ho, q]
      · rw [upd_ne hb] at q; exact s.sub b u q
    · cases h
/-- several values -/
theorem ST.frzs : ∀ {xs : List V} {rs : List Rv} {ds : List D} {e e' : En} {I : Hp} {ps : Tm}, ST F σ I H e (ps ++ xs.zip rs) → xs.length = rs.length → frzs e rs = some (ds, e') →
    ∃ I', Le I I' ∧ ST F σ I' H e' ps ∧ Reps F.K I' xs ds
  | [], [], ds, e, e', I, ps, s, _, h => by
    cases h
    simp at s
    exact ⟨I, Le.refl, s, .nil⟩
  | x :: xs, r :: rs, ds, e, e', I, ps, s, hl, h => by
    unfold TK.frzs at h
    split at h
    · rename_i d e1 h1
      split at h
      · rename_i ds' e2 h2
        cases h
        rw [List.zip_cons_cons] at s
        obtain ⟨I1, l1, s1⟩ := s.frz h1
        have s1' : ST F σ I1 H e1 ((ps ++ [(x, .im d)]) ++ xs.zip rs) := by rw [List.append_assoc]; exact s1
        obtain ⟨I2, l2, s2, r2⟩ := ST.frzs s1' (by simpa using hl) h2
        exact ⟨I2, l1.trans l2, s2.weak, .cons (ST.temp (ps := ps) (qs := []) (t := .imm d) s2) r2⟩
      · cases h
    · cases h
end
/-! ### expressions -/
structure DE (X : Cx) (F : Fr) (ex : Expr) (f : EvF) : Prop where
  ex : ∃ t, PE X ex t ∧ DT F t f
structure DA (X : Cx) (F : Fr) (es : List Expr) (f : EvA) : Prop where
  ex : ∃ t, PA X es t ∧ DTA F t f
structure DTe (X : Cx) (F : Fr) (ex : Expr) (f : EvT) : Prop where
  ex : ∃ t, PT X ex t ∧ DTT F t f
def eVar (i : Nat) : EvF := fun e P => (∃ d, e[i]? = some (some (.imm d)) ∧ P (.im d) e) ∨ ∃ t, e[i]? = some (some t) ∧ P (.slot i) e
def eC (d : D) : EvF := fun e P => P (.im d) e
def aNil : EvA := fun e P => P [] e
def aCons (f : EvF) (g : EvA) : EvA := fun e P => f e fun r e1 => g e1 fun rs e2 => P (r :: rs) e2
def eTup (g : EvA) : EvF := fun e P => g e fun rs e1 => ∃ ds e2, frzs e1 rs = some (ds, e2) ∧ ds.length ≤ 1000 ∧ P (.im (.tup ds)) e2
def eLst (g : EvA) : EvF := fun e P => g e fun rs e1 => ∃ ds e2, frzs e1 rs = some (ds, e2) ∧ ds.length ≤ 1000 ∧ ∀ a, P (.ent (.own a (.lst ds))) e2
def eDnT : EvF := fun e P => ∀ a, P (.ent (.own a (.dic []))) e
def eDnK : EvF := fun e P => ∀ a, P (.ent (.own a (.dik []))) e
section
variable {X : Cx} {F : Fr} {pos : Pos}
theorem de_var {i : Nat} {x : Str} (hN : X.N[i]? = some x) (hv : Vis X.env.scope x) (hd : (x == ("__debug__" : Str)) = false := by decide) (hcd : (x == ("__classdict__" : Str)) = false := by decide) : DE X F (.Name x pos) (eVar i) :=
  ⟨_, pe_var hN hv hd hcd, fun σ I H e ps P Q s h k => by
    rcases h with ⟨d, q, h⟩ | ⟨t, q, h⟩
    · obtain ⟨y, e1, e2⟩ := s.slot q
      exact ⟨y, e1, k y _ e I H h (s.pushI e2)⟩
    · obtain ⟨y, e1, e2⟩ := s.slot q
      exact ⟨y, e1, k y _ e I H h (s.pushS e1 q)⟩⟩
theorem DT.c {v : V} {d : D} (h : ∀ I, Rep F.K I v d) : DT F (tC v) (eC d) := fun σ I H e ps P Q s q k => k v _ e I H q (s.pushI (h I))
theorem de_int {i j} : DE X F (.Constant (.int i) j pos) (eC (.int i)) := ⟨_, pe_int, DT.c fun _ => .int i⟩
theorem de_bl {b j} : DE X F (.Constant (.bool b) j pos) (eC (.bl b)) := ⟨_, pe_bl, DT.c fun _ => .bl b⟩
theorem de_non {j} : DE X F (.Constant .none j pos) (eC .non) := ⟨_, pe_non, DT.c fun _ => .non⟩
theorem de_str {x j} : DE X F (.Constant (.str x) j pos) (eC (.str x)) := ⟨_, pe_str, DT.c fun _ => .str x⟩
theorem de_glob {x : Str} {v : V} {d : D} {u : Value} (hg : Gl X x) (hm : X.mg x = some u) (r : RelV v u) (h : ∀ I, Rep F.K I v d) (hd : (x == ("__debug__" : Str)) = false := by decide) : DE X F (.Name x pos) (eC d) := ⟨_, pe_glob hg hm r hd, DT.c h⟩
theorem de_bltn {x n : String} (hg : Gl X x) (hm : X.mg x = none) (hv : bootBuiltins x = some (.type n)) (hn : (x : Str) ≠ "__name__" := by decide) (hd : ((x : Str) == ("__debug__" : Str)) = false := by decide) : DE X F (.Name x pos) (eC (.ty n)) :=
  ⟨_, pe_bltn (v := .ty n) hg hm hv rfl hn hd, DT.c fun _ => .ty n⟩
theorem da_nil : DA X F [] aNil := ⟨_, pa_nil, fun σ I H e ps P Q s h k => k [] [] e I H h rfl (by simpa using s)⟩
theorem da_cons {ex : Expr} {es : List Expr} {f : EvF} {g : EvA} (h1 : DE X F ex f) (h2 : DA X F es g) (hs : starEach (ex :: es) X.env = (false, eval ex X.env) :: starEach es X.env := by rfl) : DA X F (ex :: es) (aCons f g) := by
  obtain ⟨t1, p1, d1⟩ := h1
  obtain ⟨t2, p2, d2⟩ := h2
  refine ⟨_, pa_cons p1 p2 hs, fun σ I H e ps P Q s h k => ?_⟩
  refine d1 σ I H e ps _ _ s h fun x r e1 I1 H1 h1 s1 => ?_
  refine d2 σ I1 H1 e1 _ _ _ s1 h1 fun xs rs e2 I2 H2 h2 hl s2 => ?_
  refine k (x :: xs) (r :: rs) e2 I2 H2 h2 (by simp [hl]) ?_
  rw [List.zip_cons_cons]
  rw [List.append_assoc] at s2
  exact s2
theorem de_tup {es : List Expr} {g : EvA} {x1} (h : DA X F es g) : DE X F (.Tuple es x1 pos) (eTup g) := by
  obtain ⟨t, p, d⟩ := h
  refine ⟨_, pe_tup p, fun σ I H e ps P Q s h k => ?_⟩
  refine d σ I H e ps _ _ s h fun xs rs e1 I1 H1 h1 hl s1 => ?_
  obtain ⟨ds, e2, hf, hz, h2⟩ := h1
  obtain ⟨I2, l2, s2, r2⟩ := s1.frzs hl hf
  refine ⟨Nat.le_trans (by rw [r2.len]; exact hz) (by decide), fun p hp => ?_⟩
  have g := Grow.allocI (o := .tup xs) s2.sub hp
  exact k _ _ e2 _ _ h2 (s2.pushG (t := .imm (.tup ds)) g (.tup upd_same (r2.mono g.le)) fun a ha => by simp at ha)
theorem de_lst {es : List Expr} {g : EvA} (h : DA X F es g) : DE X F (.List es pos) (eLst g) := by
  obtain ⟨t, p, d⟩ := h
  refine ⟨_, pe_lst p, fun σ I H e ps P Q s h k => ?_⟩
  refine d σ I H e ps _ _ s h fun xs rs e1 I1 H1 h1 hl s1 => ?_
  obtain ⟨ds, e2, hf, hz, h2⟩ := h1
  obtain ⟨I2, l2, s2, r2⟩ := s1.frzs hl hf
  refine ⟨Nat.le_trans (by rw [r2.len]; exact hz) (by decide), fun p hp => ?_⟩
  have g := Grow.alloc (o := .lst xs) s2.sub hp
  exact k _ _ e2 _ _ (h2 p) (s2.pushG (t := .own p (.lst ds)) g ⟨rfl, s2.sub.none hp, xs, upd_same, r2⟩ fun a ha => by simp at ha; subst ha; exact hp)
theorem de_dnT : DE X F (.Dict [] [] pos) eDnT := ⟨_, pe_dnewT, fun σ I H e ps P Q s h k p hp => k _ _ e _ _ (h p) (s.pushG (t := .own p (.dic [])) (Grow.alloc s.sub hp) ⟨rfl, s.sub.none hp, [], upd_same, rfl, .nil⟩ fun a ha => by simp at ha; subst ha; exact hp)⟩
theorem de_dnK : DE X F (.Dict [] [] pos) eDnK := ⟨_, pe_dnewK, fun σ I H e ps P Q s h k p hp => k _ _ e _ _ (h p) (s.pushG (t := .own p (.dik [])) (Grow.alloc s.sub hp) ⟨rfl, s.sub.none hp, [], upd_same, rfl, .nil⟩ fun a ha => by simp at ha; subst ha; exact hp)⟩
end
/-! ### operations on values -/
abbrev DO2 := D → D → (Ent → Prop) → Prop
/-- what an operation on values leaves -/
abbrev Lands (K : PySem.W.Frag) (I H : Hp) (P : Ent → Prop) (Q : VK) : Prop := ∀ z t I' H', P t → Grow I H I' H' → EntR K I' H' z t → (∀ a ∈ t.adr, H a = none) → Q z H'
def DOp (K : PySem.W.Frag) (r : R2) (g : DO2) : Prop := ∀ (I H : Hp) (x y : V) (c d : D) (P : Ent → Prop) (Q : VK), Sub I H → VwR K I H x c → VwR K I H y d → g c d P → Lands K I H P Q → r x y H Q
abbrev DO1 := D → (Ent → Prop) → Prop
def DUn (K : PySem.W.Frag) (r : V → Hp → VK → Prop) (g : DO1) : Prop := ∀ (I H : Hp) (x : V) (c : D) (P : Ent → Prop) (Q : VK), Sub I H → VwR K I H x c → g c P → Lands K I H P Q → r x H Q
inductive VwRs (K : PySem.W.Frag) (I H : Hp) : List V → List D → Prop
  | nil : VwRs K I H [] []
  | cons {x : V} {xs : List V} {d : D} {ds : List D} : VwR K I H x d → VwRs K I H xs ds → VwRs K I H (x :: xs) (d :: ds)
abbrev DON := List D → (Ent → Prop) → Prop
def DCl (K : PySem.W.Frag) (r : List V → Hp → VK → Prop) (g : DON) : Prop := ∀ (I H : Hp) (xs : List V) (ds : List D) (P : Ent → Prop) (Q : VK), Sub I H → VwRs K I H xs ds → g ds P → Lands K I H P Q → r xs H Q
def vals (e : En) : List Rv → Option (List D)
  | [] => some []
  | r :: rs => match val e r with
    | some d => match vals e rs with
      | some ds => some (d :: ds)
      | none => none
    | none => none
def eOp (g : DO2) (f1 f2 : EvF) : EvF := fun e P => f1 e fun r1 e1 => f2 e1 fun r2 e2 => ∃ c d, val e2 r1 = some c ∧ val e2 r2 = some d ∧ g c d fun t => P (.ent t) e2
def eUn (g : DO1) (f : EvF) : EvF := fun e P => f e fun r e1 => ∃ c, val e1 r = some c ∧ g c fun t => P (.ent t) e1
def eCl (g : DON) (f : EvA) : EvF := fun e P => f e fun rs e1 => ∃ ds, vals e1 rs = some ds ∧ g ds fun t => P (.ent t) e1
section
variable {F : Fr} {σ : L2.St} {I H I' H' : Hp} {e e' : En} {ps qs : Tm}
theorem ST.vws : ∀ {xs : List V} {rs : List Rv} {ds : List D} {ps : Tm}, ST F σ I H e (ps ++ xs.zip rs) → xs.length = rs.length → vals e rs = some ds → VwRs F.K I H xs ds
  | [], [], ds, ps, s, _, h => by
    cases h
    exact .nil
  | x :: xs, r :: rs, ds, ps, s, hl, h => by
    unfold TK.vals at h
    split at h
    · rename_i d h1
      split at h
      · rename_i ds' h2
        cases h
        rw [List.zip_cons_cons] at s
        have s1 : ST F σ I H e ((ps ++ [(x, r)]) ++ xs.zip rs) := by rw [List.append_assoc]; exact s
        exact .cons (s.vw h1) (ST.vws s1 (by simpa using hl) h2)
      · cases h
    · cases h
theorem DT.op {r : R2} {g : DO2} {ta tb : TE} {f1 f2 : EvF} (hr : DOp F.K r g) (d1 : DT F ta f1) (d2 : DT F tb f2) : DT F (tOp r ta tb) (eOp g f1 f2) := fun σ I H e ps P Q s h k => by
  refine d1 σ I H e ps _ _ s h fun x r1 e1 I1 H1 h1 s1 => ?_
  refine d2 σ I1 H1 e1 _ _ _ s1 h1 fun y r2 e2 I2 H2 h2 s2 => ?_
  obtain ⟨c, d, v1, v2, h3⟩ := h2
  rw [List.append_assoc] at s2
  have s2' := s2
  rw [← List.append_assoc] at s2'
  exact hr I2 H2 x y c d _ _ s2.sub (s2.vw v1) (ST.vw (ps := ps ++ [(x, r1)]) (qs := []) s2' v2) h3 fun z t I3 H3 p3 g3 r3 n3 => k z _ e2 I3 H3 p3 (s2.weak.pushG g3 r3 n3)
theorem DT.un {r : V → Hp → VK → Prop} {g : DO1} {ta : TE} {f : EvF} (hr : DUn F.K r g) (d1 : DT F ta f) : DT F (tUn r ta) (eUn g f) := fun σ I H e ps P Q s h k => by
  refine d1 σ I H e ps _ _ s h fun x r1 e1 I1 H1 h1 s1 => ?_
  obtain ⟨c, v1, h3⟩ := h1
  exact hr I1 H1 x c _ _ s1.sub (s1.vw v1) h3 fun z t I3 H3 p3 g3 r3 n3 => k z _ e1 I3 H3 p3 (s1.weak.pushG g3 r3 n3)
theorem DT.cl {r : List V → Hp → VK → Prop} {g : DON} {t : TA} {f : EvA} (hr : DCl F.K r g) (d1 : DTA F t f) : DT F (fun σ H Q => t σ H fun vs H1 => r vs H1 Q) (eCl g f) := fun σ I H e ps P Q s h k => by
  refine d1 σ I H e ps _ _ s h fun xs rs e1 I1 H1 h1 hl s1 => ?_
  obtain ⟨ds, v1, h3⟩ := h1
  exact hr I1 H1 xs ds _ _ s1.sub (s1.vws hl v1) h3 fun z t I3 H3 p3 g3 r3 n3 => k z _ e1 I3 H3 p3 (s1.weak.pushG g3 r3 n3)
end
/-! views by shape -/
section
variable {K : PySem.W.Frag} {I H : Hp} {x : V}
theorem VwR.int {i : Int} (h : VwR K I H x (.int i)) : x = .int i := by
  rcases h with h | ⟨a, _, h⟩
  · cases h; rfl
  · exact False.elim h
theorem VwR.bl {i : Bool} (h : VwR K I H x (.bl i)) : x = .bl i := by
  rcases h with h | ⟨a, _, h⟩
  · cases h; rfl
  · exact False.elim h
theorem VwR.str {i : Str} (h : VwR K I H x (.str i)) : x = .str i := by
  rcases h with h | ⟨a, _, h⟩
  · cases h; rfl
  · exact False.elim h
theorem VwR.non (h : VwR K I H x .non) : x = .non := by
  rcases h with h | ⟨a, _, h⟩
  · cases h; rfl
  · exact False.elim h
theorem VwR.ty {n : String} (h : VwR K I H x (.ty n)) : x = .ty n := by
  rcases h with h | ⟨a, _, h⟩
  · cases h; rfl
  · exact False.elim h
theorem VwR.lst {ds : List D} (s : Sub I H) (h : VwR K I H x (.lst ds)) : ∃ a xs, x = .ref a ∧ H a = some (.lst xs) ∧ Reps K I xs ds := by
  rcases h with h | ⟨a, rfl, xs, h, r⟩
  · cases h with
    | lst h r => exact ⟨_, _, rfl, s _ _ h, r⟩
  · exact ⟨a, xs, rfl, h, r⟩
theorem VwR.fls {ds : List D} (s : Sub I H) (h : VwR K I H x (.fls ds)) : ∃ a xs, x = .ref a ∧ SqL K H a xs ∧ Reps K I xs ds := by
  rcases h with h | ⟨a, _, h⟩
  · cases h with
    | fls h r => exact ⟨_, _, rfl, Le.sqL s h, r⟩
  · exact False.elim h
theorem VwR.tup {ds : List D} (s : Sub I H) (h : VwR K I H x (.tup ds)) : ∃ a xs, x = .ref a ∧ H a = some (.tup xs) ∧ Reps K I xs ds := by
  rcases h with h | ⟨a, _, h⟩
  · cases h with
    | tup h r => exact ⟨_, _, rfl, s _ _ h, r⟩
  · exact False.elim h
theorem VwR.ftp {ds : List D} (s : Sub I H) (h : VwR K I H x (.ftp ds)) : ∃ a xs, x = .ref a ∧ SqT K H a xs ∧ Reps K I xs ds := by
  rcases h with h | ⟨a, _, h⟩
  · cases h with
    | ftp h r => exact ⟨_, _, rfl, Le.sqT s h, r⟩
  · exact False.elim h
theorem VwR.dic {es : List (List Key × D)} (s : Sub I H) (h : VwR K I H x (.dic es)) : ∃ a kvs, x = .ref a ∧ H a = some (.dT kvs) ∧ kvs.map (·.1) = es.map (·.1) ∧ Reps K I (kvs.map (·.2)) (es.map (·.2)) := by
  rcases h with h | ⟨a, rfl, xs, h, m, r⟩
  · cases h with
    | dic h m r => exact ⟨_, _, rfl, s _ _ h, m, r⟩
  · exact ⟨a, xs, rfl, h, m, r⟩
theorem VwR.dik {es : List (Key × D)} (s : Sub I H) (h : VwR K I H x (.dik es)) : ∃ a kvs, x = .ref a ∧ H a = some (.dK kvs) ∧ kvs.map (·.1) = es.map (·.1) ∧ Reps K I (kvs.map (·.2)) (es.map (·.2)) := by
  rcases h with h | ⟨a, rfl, xs, h, m, r⟩
  · cases h with
    | dik h m r => exact ⟨_, _, rfl, s _ _ h, m, r⟩
  · exact ⟨a, xs, rfl, h, m, r⟩
theorem VwR.obj {C : Addr} {es : List (Str × D)} (s : Sub I H) (h : VwR K I H x (.obj C es)) : ∃ a dx fs, x = .ref a ∧ H a = some (.ins C dx fs) ∧ fs.map (·.1) = es.map (·.1) ∧ Reps K I (fs.map (·.2)) (es.map (·.2)) := by
  rcases h with h | ⟨a, _, h⟩
  · cases h with
    | obj h m r => exact ⟨_, _, _, rfl, s _ _ h, m, r⟩
  · exact False.elim h
theorem Lands.imm {P : Ent → Prop} {Q : VK} {d : D} (k : Lands K I H P Q) (s : Sub I H) (p : P (.imm d)) (r : Rep K I x d) : Q x H := k x _ I H p (Grow.refl s) r fun a ha => by simp at ha
theorem Lands.lst {P : Ent → Prop} {Q : VK} {xs : List V} {ds : List D} (k : Lands K I H P Q) (s : Sub I H) (p : ∀ a, P (.own a (.lst ds))) (r : Reps K I xs ds) : ∀ q, H q = none → Q (.ref q) (upd H q (.lst xs)) := fun q hq =>
  k _ _ _ _ (p q) (Grow.alloc s hq) ⟨rfl, s.none hq, xs, upd_same, r⟩ fun a ha => by simp at ha; subst ha; exact hq
theorem Lands.tup {P : Ent → Prop} {Q : VK} {xs : List V} {ds : List D} (k : Lands K I H P Q) (s : Sub I H) (p : P (.imm (.tup ds))) (r : Reps K I xs ds) : ∀ q, H q = none → Q (.ref q) (upd H q (.tup xs)) := fun q hq =>
  k _ _ _ _ p (Grow.allocI s hq) (.tup upd_same (r.mono (Le.new (s.none hq)))) fun a ha => by simp at ha
end
/-! ### operators -/
def MulOk (i j : Int) : Prop := CMul i j ∨ CMulW i j
def DivOk (j : Int) : Prop := 0 < j ∧ (j < 1073741824 ∨ j.natAbs.log2 < 9000)
def oAdd : DO2
  | .int i, .int j, P => P (.imm (.int (i + j)))
  | .str x, .str y, P => x.length + y.length ≤ sizeLine ∧ P (.imm (.str (x ++ y)))
  | .lst xs, .lst ys, P => xs.length + ys.length ≤ sizeLine ∧ ∀ a, P (.own a (.lst (xs ++ ys)))
  | _, _, _ => False
def oSub : DO2
  | .int i, .int j, P => P (.imm (.int (i - j)))
  | _, _, _ => False
def oMul : DO2
  | .int i, .int j, P => MulOk i j ∧ P (.imm (.int (i * j)))
  | _, _, _ => False
def oDiv : DO2
  | .int i, .int j, P => DivOk j ∧ P (.imm (.int (i / j)))
  | _, _, _ => False
def oMod : DO2
  | .int i, .int j, P => 0 < j ∧ P (.imm (.int (i % j)))
  | _, _, _ => False
def oPow : DO2
  | .int i, .int j, P => CPow i j ∧ P (.imm (.int (i ^ j.toNat)))
  | _, _, _ => False
def oAnd : DO2
  | .int i, .int j, P => P (.imm (.int (Builtin.bitAnd i j)))
  | _, _, _ => False
def oLt : DO2
  | .int i, .int j, P => P (.imm (.bl (decide (i < j))))
  | _, _, _ => False
def oLe : DO2
  | .int i, .int j, P => P (.imm (.bl (decide (i ≤ j))))
  | _, _, _ => False
def oGt : DO2
  | .int i, .int j, P => P (.imm (.bl (decide (j < i))))
  | _, _, _ => False
def oGe : DO2
  | .int i, .int j, P => P (.imm (.bl (decide (j ≤ i))))
  | _, _, _ => False
/-- == of data -/
def eqD (c d : D) : Bool := PyData.eqv (toPy c) (toPy d)
def okP (d : D) : Prop := okD 40 (toPy d) = true
def oEq : DO2
  | .int i, .int j, P => P (.imm (.bl (decide (i = j))))
  | .str i, .str j, P => P (.imm (.bl (decide (i = j))))
  | c, d, P => okP c ∧ okP d ∧ P (.imm (.bl (eqD c d)))
def oNe : DO2
  | .int i, .int j, P => P (.imm (.bl (!decide (i = j))))
  | .str i, .str j, P => P (.imm (.bl (!decide (i = j))))
  | c, d, P => okP c ∧ okP d ∧ P (.imm (.bl (!eqD c d)))
def isNon : D → Bool
  | .non => true
  | _ => false
def isBl (b : Bool) : D → Bool
  | .bl c => c == b
  | _ => false
def oIs : DO2
  | d, .non, P => P (.imm (.bl (isNon d)))
  | d, .bl b, P => P (.imm (.bl (isBl b d)))
  | _, _, _ => False
def oIsNot : DO2
  | d, .non, P => P (.imm (.bl (!isNon d)))
  | _, _, _ => False
def oIx : DO2
  | .ftp xs, .int i, P => ∃ j d, ixN xs.length i = some j ∧ xs[j]? = some d ∧ P (.imm d)
  | .fls xs, .int i, P => ∃ j d, ixN xs.length i = some j ∧ xs[j]? = some d ∧ P (.imm d)
  | .lst xs, .int i, P => ∃ j d, ixN xs.length i = some j ∧ xs[j]? = some d ∧ P (.imm d)
  | .tup xs, .int i, P => ∃ j d, ixN xs.length i = some j ∧ xs[j]? = some d ∧ P (.imm d)
  | .str z, .int i, P => z.length ≤ sizeLine ∧ ∃ c, atI z.cps.toList i = some c ∧ P (.imm (.str ⟨#[c]⟩))
  | _, _, _ => False
theorem OpR.or {X : Cx} {f : Value → Value → Sem Value} {r r' : R2} (h : OpR X f r) (h' : OpR X f r') : OpR X f (fun x y H Q => r x y H Q ∨ r' x y H Q) := fun pins s σ H x y v u Q I rx ry q => by
  rcases q with q | q
  · exact h pins s σ H x y v u Q I rx ry q
  · exact h' pins s σ H x y v u Q I rx ry q
def IxR.or {X : Cx} {r r' : R2} (h : IxR X r) (h' : IxR X r') : IxR X (fun x y H Q => r x y H Q ∨ r' x y H Q) := fun a b pins s σ H x y v u Q I rx ry q z => by
  rcases q with q | q
  · exact h a b pins s σ H x y v u Q I rx ry q z
  · exact h' a b pins s σ H x y v u Q I rx ry q z
section
variable {K : PySem.W.Frag}
theorem dop_I0 {g : Int → Int → V} {o : DO2} (h : ∀ c d P, o c d P → ∃ i j k, c = .int i ∧ d = .int j ∧ P (.imm k) ∧ ∀ I, Rep K I (g i j) k) : DOp K (rI0 g) o := fun I H x y c d P Q s v1 v2 q k => by
  obtain ⟨i, j, w, rfl, rfl, p, r⟩ := h c d P q
  exact ⟨i, j, v1.int, v2.int, k.imm s p (r I)⟩
theorem dop_I {C : Int → Int → Prop} {g : Int → Int → V} {o : DO2} (h : ∀ c d P, o c d P → ∃ i j k, c = .int i ∧ d = .int j ∧ C i j ∧ P (.imm k) ∧ ∀ I, Rep K I (g i j) k) : DOp K (rI C g) o := fun I H x y c d P Q s v1 v2 q k => by
  obtain ⟨i, j, w, rfl, rfl, hc, p, r⟩ := h c d P q
  exact ⟨i, j, v1.int, v2.int, hc, k.imm s p (r I)⟩
end
structure DOR (X : Cx) (f : Value → Value → Sem Value) (g : DO2) : Prop where
  ex : ∃ r, OpR X f r ∧ DOp X.K r g
section
variable {X : Cx}
theorem dor_sub : DOR X (binaryOp .Sub) oSub := ⟨_, op_sub, dop_I0 fun c d P h => by
  cases c <;> cases d <;> first | exact False.elim h | exact ⟨_, _, _, rfl, rfl, h, fun _ => .int _⟩⟩
theorem dor_mul : DOR X (binaryOp .Mult) oMul := ⟨_, op_mul.or op_mulW, fun I H x y c d P Q s v1 v2 h k => by
  cases c <;> cases d <;> first
    | exact False.elim h
    | (obtain ⟨hc, p⟩ := h
       rcases hc with hc | hc
       · exact .inl ⟨_, _, v1.int, v2.int, hc, k.imm s p (.int _)⟩
       · exact .inr ⟨_, _, v1.int, v2.int, hc, k.imm s p (.int _)⟩)⟩
theorem dor_div : DOR X (binaryOp .FloorDiv) oDiv := ⟨_, op_fdiv.or op_fdivW, fun I H x y c d P Q s v1 v2 h k => by
  cases c <;> cases d <;> first
    | exact False.elim h
    | (obtain ⟨⟨h0, hc⟩, p⟩ := h
       rcases hc with hc | hc
       · exact .inl ⟨_, _, v1.int, v2.int, ⟨h0, hc⟩, k.imm s p (.int _)⟩
       · exact .inr ⟨_, _, v1.int, v2.int, ⟨h0, hc⟩, k.imm s p (.int _)⟩)⟩
theorem dor_mod : DOR X (binaryOp .Mod) oMod := ⟨_, op_mod, dop_I fun c d P h => by
  cases c <;> cases d <;> first | exact False.elim h | exact ⟨_, _, _, rfl, rfl, h.1, h.2, fun _ => .int _⟩⟩
theorem dor_pow : DOR X (binaryOp .Pow) oPow := ⟨_, op_pow, dop_I fun c d P h => by
  cases c <;> cases d <;> first | exact False.elim h | exact ⟨_, _, _, rfl, rfl, h.1, h.2, fun _ => .int _⟩⟩
theorem dor_and : DOR X (binaryOp .BitAnd) oAnd := ⟨_, op_and, dop_I0 fun c d P h => by
  cases c <;> cases d <;> first | exact False.elim h | exact ⟨_, _, _, rfl, rfl, h, fun _ => .int _⟩⟩
theorem dor_lt : DOR X (compareOp .Lt) oLt := ⟨_, op_lt, dop_I0 fun c d P h => by
  cases c <;> cases d <;> first | exact False.elim h | exact ⟨_, _, _, rfl, rfl, h, fun _ => .bl _⟩⟩
theorem dor_le : DOR X (compareOp .LtE) oLe := ⟨_, op_le, dop_I0 fun c d P h => by
  cases c <;> cases d <;> first | exact False.elim h | exact ⟨_, _, _, rfl, rfl, h, fun _ => .bl _⟩⟩
theorem dor_gt : DOR X (compareOp .Gt) oGt := ⟨_, op_gt, dop_I0 fun c d P h => by
  cases c <;> cases d <;> first | exact False.elim h | exact ⟨_, _, _, rfl, rfl, h, fun _ => .bl _⟩⟩
theorem dor_ge : DOR X (compareOp .GtE) oGe := ⟨_, op_ge, dop_I0 fun c d P h => by
  cases c <;> cases d <;> first | exact False.elim h | exact ⟨_, _, _, rfl, rfl, h, fun _ => .bl _⟩⟩
end
/-! ### further operators -/
section
variable {X : Cx}
theorem DOp.or {K : PySem.W.Frag} {r r' : R2} {g g' o : DO2} (h : DOp K r g) (h' : DOp K r' g') (m : ∀ c d P, o c d P → g c d P ∨ g' c d P) : DOp K (fun x y H Q => r x y H Q ∨ r' x y H Q) o := fun I H x y c d P Q s v1 v2 q k => by
  rcases m c d P q with q | q
  · exact .inl (h I H x y c d P Q s v1 v2 q k)
  · exact .inr (h' I H x y c d P Q s v1 v2 q k)
theorem dor_add : DOR X (binaryOp .Add) oAdd := ⟨_, op_add.or (op_add_str.or (op_cat.or op_catT)), fun I H x y c d P Q s v1 v2 h k => by
  cases c <;> cases d <;> first
    | exact False.elim h
    | exact .inl ⟨_, _, v1.int, v2.int, k.imm s h (.int _)⟩
    | exact .inr (.inl ⟨_, _, v1.str, v2.str, h.1, k.imm s h.2 (.str _)⟩)
    | (obtain ⟨a, xs, rfl, h1, r1⟩ := v1.lst s
       obtain ⟨b, ys, rfl, h2, r2⟩ := v2.lst s
       exact .inr (.inr (.inl ⟨a, b, xs, ys, rfl, rfl, h1, h2, by rw [r1.len, r2.len]; exact h.1, k.lst s h.2 (r1.app r2)⟩)))⟩
theorem Rep.dpH {K : PySem.W.Frag} {I H : Hp} {x : V} {d : D} (s : Sub I H) (h : VwR K I H x d) (ok : okP d) : Dp K H x (toPy d) := by
  have go : ∀ {y e}, Rep K I y e → okP e → Dp K H y (toPy e) := fun r o => (r.mono s).dp o
  rcases h with h | ⟨a, rfl, h⟩
  · exact go h ok
  · cases d with
    | lst ds =>
      obtain ⟨xs, h, r⟩ := h
      have ok' : okD 40 (.list (toPys ds)) = true := ok
      rw [okD, Bool.and_eq_true] at ok'
      exact .lst (SqL.of h) ((r.mono s).dp ok'.2)
    | dic es => simp [okP, toPy, okD] at ok
    | dik es => simp [okP, toPy, okD] at ok
    | _ => exact False.elim h
theorem dec_vi {i j : Int} : decide (V.int i = V.int j) = decide (i = j) := decide_eq_decide.mpr (by simp)
theorem dec_vs {i j : Str} : decide (V.str i = V.str j) = decide (i = j) := decide_eq_decide.mpr (by simp)
theorem dor_eq (hu : X.A.units + 64 < cLine) : DOR X (compareOp .Eq) oEq := ⟨_, op_eq.or (op_eqD hu), fun I H x y c d P Q s v1 v2 h k => by
  have gen : okP c ∧ okP d ∧ P (.imm (.bl (eqD c d))) → rEqD X.K x y H Q := fun h =>
    ⟨toPy c, toPy d, Rep.dpH s v1 h.1, Rep.dpH s v2 h.2.1, okD_shaped h.1 (by decide), okD_shaped h.2.1 (by decide), k.imm s h.2.2 (.bl _)⟩
  unfold oEq at h
  split at h
  · rw [v1.int, v2.int]
    refine .inl ⟨rfl, k.imm s h ?_⟩
    rw [dec_vi]
    exact .bl _
  · rw [v1.str, v2.str]
    refine .inl ⟨rfl, k.imm s h ?_⟩
    rw [dec_vs]
    exact .bl _
  · exact .inr (gen h)⟩
theorem dor_ne (hu : X.A.units + 64 < cLine) : DOR X (compareOp .NotEq) oNe := ⟨_, op_ne.or (op_neD hu), fun I H x y c d P Q s v1 v2 h k => by
  have gen : okP c ∧ okP d ∧ P (.imm (.bl (!eqD c d))) → rNeD X.K x y H Q := fun h =>
    ⟨toPy c, toPy d, Rep.dpH s v1 h.1, Rep.dpH s v2 h.2.1, okD_shaped h.1 (by decide), okD_shaped h.2.1 (by decide), k.imm s h.2.2 (.bl _)⟩
  unfold oNe at h
  split at h
  · rw [v1.int, v2.int]
    refine .inl ⟨rfl, k.imm s h ?_⟩
    rw [dec_vi]
    exact .bl _
  · rw [v1.str, v2.str]
    refine .inl ⟨rfl, k.imm s h ?_⟩
    rw [dec_vs]
    exact .bl _
  · exact .inr (gen h)⟩
theorem VwR.isN {K : PySem.W.Frag} {I H : Hp} {x : V} {d : D} (v : VwR K I H x d) : decide (x = .non) = isNon d := by
  rcases v with h | ⟨a, rfl, h⟩
  · cases h <;> rfl
  · cases d <;> first | exact False.elim h | rfl
theorem VwR.isB {K : PySem.W.Frag} {I H : Hp} {x : V} {d : D} {b : Bool} (v : VwR K I H x d) : decide (x = .bl b) = isBl b d := by
  rcases v with h | ⟨a, rfl, h⟩
  · cases h <;> first
      | rfl
      | (rename_i c; cases c <;> cases b <;> rfl)
  · cases d <;> first | exact False.elim h | rfl
theorem dor_is : DOR X (compareOp .Is) oIs := ⟨_, o_isN.or o_isBool, fun I H x y c d P Q s v1 v2 h k => by
  cases d with
  | non =>
    rw [v2.non]
    refine .inl ⟨rfl, ?_⟩
    rw [v1.isN]
    exact k.imm s (by cases c <;> exact h) (.bl _)
  | bl b =>
    rw [v2.bl]
    refine .inr ⟨b, rfl, ?_⟩
    rw [v1.isB]
    exact k.imm s (by cases c <;> exact h) (.bl _)
  | _ => cases c <;> exact False.elim h⟩
theorem dor_isNot : DOR X (compareOp .IsNot) oIsNot := ⟨_, o_notN, fun I H x y c d P Q s v1 v2 h k => by
  cases d with
  | non =>
    rw [v2.non]
    refine ⟨rfl, ?_⟩
    rw [v1.isN]
    exact k.imm s (by cases c <;> exact h) (.bl _)
  | _ => cases c <;> exact False.elim h⟩
structure DIx (X : Cx) (g : DO2) : Prop where
  ex : ∃ r, IxR X r ∧ DOp X.K r g
theorem Reps.at_ {K : PySem.W.Frag} {I : Hp} {xs : List V} {ds : List D} {i : Int} {j : Nat} {d : D} (r : Reps K I xs ds) (hj : ixN ds.length i = some j) (hd : ds[j]? = some d) : ∃ x, atI xs i = some x ∧ Rep K I x d := by
  obtain ⟨x, h1, h2⟩ := r.get hd
  refine ⟨x, ?_, h2⟩
  unfold atI
  rw [r.len, hj]
  exact h1
theorem dix : DIx X oIx := ⟨_, ix_list.or (ix_tup.or ix_str), fun I H x y c d P Q s v1 v2 h k => by
  cases c <;> cases d <;> first
    | exact False.elim h
    | (obtain ⟨j, d, h1, h2, p⟩ := h
       obtain ⟨a, xs, rfl, h3, r⟩ := v1.lst s
       obtain ⟨x, e, rx⟩ := r.at_ h1 h2
       exact .inl ⟨a, xs, _, x, rfl, v2.int, SqL.of h3, e, k.imm s p rx⟩)
    | (obtain ⟨j, d, h1, h2, p⟩ := h
       obtain ⟨a, xs, rfl, h3, r⟩ := v1.fls s
       obtain ⟨x, e, rx⟩ := r.at_ h1 h2
       exact .inl ⟨a, xs, _, x, rfl, v2.int, h3, e, k.imm s p rx⟩)
    | (obtain ⟨j, d, h1, h2, p⟩ := h
       obtain ⟨a, xs, rfl, h3, r⟩ := v1.tup s
       obtain ⟨x, e, rx⟩ := r.at_ h1 h2
       exact .inr (.inl ⟨a, xs, _, x, rfl, v2.int, SqT.of h3, e, k.imm s p rx⟩))
    | (obtain ⟨j, d, h1, h2, p⟩ := h
       obtain ⟨a, xs, rfl, h3, r⟩ := v1.ftp s
       obtain ⟨x, e, rx⟩ := r.at_ h1 h2
       exact .inr (.inl ⟨a, xs, _, x, rfl, v2.int, h3, e, k.imm s p rx⟩))
    | (obtain ⟨hz, c, e, p⟩ := h
       exact .inr (.inr ⟨_, _, c, v1.str, v2.int, hz, e, k.imm s p (.str _)⟩))⟩
end
/-! ### expressions of operators; tests -/
structure DW (X : Cx) (F : Fr) (ex : Expr) (f : EvT) : Prop where
  ex : ∃ t, PW X ex t ∧ DTT F t f
def eTest (f : EvF) : EvT := fun e P => f e fun r e1 => ∃ b, val e1 r = some (.bl b) ∧ P b e1
def sAnd (f g : EvT) : EvT := fun e P => f e fun b e1 => if b = true then g e1 P else P false e1
def sOr (f g : EvT) : EvT := fun e P => f e fun b e1 => if b = true then P true e1 else g e1 P
def sNot (f : EvT) : EvT := fun e P => f e fun b e1 => P (!b) e1
def eAnd (f g : EvF) : EvF := fun e P => f e fun r e1 => ∃ b, val e1 r = some (.bl b) ∧ if b = true then g e1 P else P (.im (.bl false)) e1
def eOr (f g : EvF) : EvF := fun e P => f e fun r e1 => ∃ b, val e1 r = some (.bl b) ∧ if b = true then P (.im (.bl true)) e1 else g e1 P
def eNot (f : EvF) : EvF := fun e P => f e fun r e1 => ∃ b, val e1 r = some (.bl b) ∧ P (.im (.bl !b)) e1
def eIf (f : EvT) (g h : EvF) : EvF := fun e P => f e fun b e1 => if b = true then g e1 P else h e1 P
def eChain (o o' : DO2) (f1 f2 f3 : EvF) : EvF := fun e P => f1 e fun r1 e1 => f2 e1 fun r2 e2 => ∃ c d, val e2 r1 = some c ∧ val e2 r2 = some d ∧ o c d fun t => ∃ b, t = .imm (.bl b) ∧
  if b = true then f3 e2 fun r3 e3 => ∃ c d, val e3 r2 = some c ∧ val e3 r3 = some d ∧ o' c d fun t => P (.ent t) e3 else P (.im (.bl false)) e2
abbrev EvO := En → (Option Int → En → Prop) → Prop
def pNo : EvO := fun e P => P none e
def pSome (f : EvF) : EvO := fun e P => f e fun r e1 => ∃ i, val e1 r = some (.int i) ∧ P (some i) e1
def cutL {α : Type} (xs : List α) (lo hi : Option Int) : List α := (xs.drop (HT.sIx xs.length 0 lo)).take (HT.sIx xs.length xs.length hi - HT.sIx xs.length 0 lo)
/-- a slice, lo and hi -/
def oSl : D → Option Int → Option Int → (Ent → Prop) → Prop
  | .lst xs, lo, hi, P => ∀ a, P (.own a (.lst (cutL xs lo hi)))
  | .tup xs, lo, hi, P => P (.imm (.tup (cutL xs lo hi)))
  | .str z, lo, hi, P => z.length ≤ sizeLine ∧ P (.imm (.str (cutS z lo hi)))
  | _, _, _, _ => False
def eSl (f : EvF) (l h : EvO) : EvF := fun e P => f e fun r e1 => l e1 fun lo e2 => h e2 fun hi e3 => ∃ c, val e3 r = some c ∧ oSl c lo hi fun t => P (.ent t) e3
def DTO (F : Fr) (t : TO) (f : EvO) : Prop := ∀ (σ : L2.St) (I H : Hp) (e : En) (ps : Tm) (P : Option Int → En → Prop) (Q : Option Int → Hp → Prop), ST F σ I H e ps → f e P →
  (∀ b e' I' H', P b e' → ST F σ I' H' e' ps → Q b H') → t σ H Q
structure DO (X : Cx) (F : Fr) (ex : Option Expr) (f : EvO) : Prop where
  ex : ∃ t, PO X ex t ∧ DTO F t f
theorem Reps.cut {K : PySem.W.Frag} {I : Hp} {xs : List V} {ds : List D} {lo hi : Option Int} (r : Reps K I xs ds) : Reps K I (cutV xs lo hi) (cutL ds lo hi) := by
  unfold cutV cutL
  rw [r.len]
  exact (r.drop _).take _
def oFld (f : Str) (C : Addr) : DO1
  | .obj D fs, P => D = C ∧ ∃ d, fs.lookup f = some d ∧ P (.imm d)
  | _, _ => False
theorem Reps.look {K : PySem.W.Frag} {I : Hp} {f : Str} {d : D} : ∀ {fs : List (Str × V)} {es : List (Str × D)}, fs.map (·.1) = es.map (·.1) → Reps K I (fs.map (·.2)) (es.map (·.2)) → es.lookup f = some d → ∃ x, fs.lookup f = some x ∧ Rep K I x d
  | [], [], _, _, h => by cases h
  | [], _ :: _, m, _, _ => by cases m
  | _ :: _, [], m, _, _ => by cases m
  | (g, x) :: fs, (g', e) :: es, m, r, h => by
    rw [List.map_cons, List.map_cons] at m r
    injection m with m1 m2
    cases r with
    | cons r1 r2 =>
      have m1' : g = g' := m1
      subst m1'
      rw [List.lookup_cons] at h ⊢
      cases q : f == g with
      | true =>
        rw [q] at h
        cases h
        exact ⟨x, rfl, r1⟩
      | false =>
        rw [q] at h
        exact Reps.look m2 r2 h
section
variable {X : Cx} {F : Fr} {pos : Pos} {a b c : Expr} {f g h : EvF}
theorem DTT.of {t : TE} (d : DT F t f) : DTT F (fun σ H Q => t σ H fun x H1 => ∃ k, x = .bl k ∧ Q k H1) (eTest f) := fun σ I H e ps P Q s q k => by
  refine d σ I H e ps _ _ s q fun x r e1 I1 H1 h1 s1 => ?_
  obtain ⟨b, v, p⟩ := h1
  exact ⟨b, VwR.bl (s1.vw (qs := []) v), k b e1 I1 H1 p s1.weak⟩
theorem de_op {op : Operator} {o : DO2} (hr : DOR X (binaryOp op) o) (h1 : DE X F a f) (h2 : DE X F b g) (hK : F.K = X.K := by first | rfl | assumption) : DE X F (.BinOp a op b pos) (eOp o f g) := by
  obtain ⟨r, p, d⟩ := hr
  obtain ⟨t1, p1, d1⟩ := h1
  obtain ⟨t2, p2, d2⟩ := h2
  exact ⟨_, pe_op p p1 p2, DT.op (by rw [hK]; exact d) d1 d2⟩
theorem de_cmp {op : CmpOp} {o : DO2} (hr : DOR X (compareOp op) o) (h1 : DE X F a f) (h2 : DE X F b g) (hm : behindInMarks op b = false) (hK : F.K = X.K := by first | rfl | assumption) : DE X F (.Compare a [op] [b] pos) (eOp o f g) := by
  obtain ⟨r, p, d⟩ := hr
  obtain ⟨t1, p1, d1⟩ := h1
  obtain ⟨t2, p2, d2⟩ := h2
  exact ⟨_, pe_cmpR p p1 p2 hm, DT.op (by rw [hK]; exact d) d1 d2⟩
theorem dt_cmp {op : CmpOp} {o : DO2} (hr : DOR X (compareOp op) o) (h1 : DE X F a f) (h2 : DE X F b g) (hm : behindInMarks op b = false) (hK : F.K = X.K := by first | rfl | assumption) : DTe X F (.Compare a [op] [b] pos) (eTest (eOp o f g)) := by
  obtain ⟨r, p, d⟩ := hr
  obtain ⟨t1, p1, d1⟩ := h1
  obtain ⟨t2, p2, d2⟩ := h2
  exact ⟨_, pt_cmpR p p1 p2 hm, DTT.of (DT.op (by rw [hK]; exact d) d1 d2)⟩
theorem dt_val (h1 : DE X F a f) (he : ∀ whole, isTrue a X.env whole = (do let v ← whole; standAt a.pos; holding [v] (truthy v)) := by intro _; rfl) : DTe X F a (eTest f) := by
  obtain ⟨t1, p1, d1⟩ := h1
  exact ⟨_, pt_val p1 he, DTT.of d1⟩
theorem chainT {r r' : R2} {o o' : DO2} {ta tb tc : TE} (hr : DOp F.K r o) (hr' : DOp F.K r' o') (d1 : DT F ta f) (d2 : DT F tb g) (d3 : DT F tc h) : DT F (tChain r r' ta tb tc) (eChain o o' f g h) := fun σ I H e ps P Q s q k => by
  refine d1 σ I H e ps _ _ s q fun x r1 e1 I1 H1 h1 s1 => ?_
  refine d2 σ I1 H1 e1 _ _ _ s1 h1 fun y r2 e2 I2 H2 h2 s2 => ?_
  obtain ⟨c, d, v1, v2, q3⟩ := h2
  have s2' := s2
  rw [List.append_assoc] at s2'
  refine hr I2 H2 x y c d _ _ s2.sub (s2'.vw v1) (s2.vw (qs := []) v2) q3 fun z t I3 H3 p3 g3 r3 n3 => ?_
  obtain ⟨b, rfl, q4⟩ := p3
  obtain rfl : z = .bl b := by cases (show Rep F.K I3 z (.bl b) from r3); rfl
  refine ⟨b, rfl, ?_⟩
  have s3 := s2.grow g3
  cases b with
  | false => exact k _ _ e2 I3 H3 q4 (s3.weak.weak.pushI (.bl false))
  | true =>
    refine d3 σ I3 H3 e2 _ _ _ s3 q4 fun w r4 e4 I4 H4 h4 s4 => ?_
    obtain ⟨c', d', v3, v4, q5⟩ := h4
    have s4' := s4
    rw [List.append_assoc] at s4'
    exact hr' I4 H4 y w c' d' _ _ s4.sub (s4'.vw v3) (s4.vw (qs := []) v4) q5 fun z t I5 H5 p5 g5 r5 n5 => k z _ e4 I5 H5 p5 (s4.weak.weak.weak.pushG g5 r5 n5)
theorem de_chain {op op' : CmpOp} {o o' : DO2} (hr : DOR X (compareOp op) o) (hr' : DOR X (compareOp op') o') (h1 : DE X F a f) (h2 : DE X F b g) (h3 : DE X F c h) (hm : lastMarks [op, op'] [b, c] = false := by with_unfolding_all rfl) (hK : F.K = X.K := by first | rfl | assumption) :
    DE X F (.Compare a [op, op'] [b, c] pos) (eChain o o' f g h) := by
  obtain ⟨r, p, d⟩ := hr
  obtain ⟨r', p', d'⟩ := hr'
  obtain ⟨t1, p1, d1⟩ := h1
  obtain ⟨t2, p2, d2⟩ := h2
  obtain ⟨t3, p3, d3⟩ := h3
  exact ⟨_, pe_chain p p' p1 p2 p3 hm, chainT (by rw [hK]; exact d) (by rw [hK]; exact d') d1 d2 d3⟩
theorem dt_chain {op op' : CmpOp} {o o' : DO2} (hr : DOR X (compareOp op) o) (hr' : DOR X (compareOp op') o') (h1 : DE X F a f) (h2 : DE X F b g) (h3 : DE X F c h) (hm : lastMarks [op, op'] [b, c] = false := by with_unfolding_all rfl) (hK : F.K = X.K := by first | rfl | assumption) :
    DTe X F (.Compare a [op, op'] [b, c] pos) (eTest (eChain o o' f g h)) := by
  obtain ⟨r, p, d⟩ := hr
  obtain ⟨r', p', d'⟩ := hr'
  obtain ⟨t1, p1, d1⟩ := h1
  obtain ⟨t2, p2, d2⟩ := h2
  obtain ⟨t3, p3, d3⟩ := h3
  exact ⟨_, pt_chain p p' p1 p2 p3 hm, DTT.of (chainT (by rw [hK]; exact d) (by rw [hK]; exact d') d1 d2 d3)⟩
variable {tA tB : EvT} {rest : List Expr}
theorem dw_and1 (ha : DTe X F a tA) : DW X F (.BoolOp .And [a] pos) tA := by
  obtain ⟨t, p, d⟩ := ha
  exact ⟨t, pw_and1 p, d⟩
theorem dw_or1 (ha : DTe X F a tA) : DW X F (.BoolOp .Or [a] pos) tA := by
  obtain ⟨t, p, d⟩ := ha
  exact ⟨t, pw_or1 p, d⟩
theorem dw_and (ha : DTe X F a tA) (hb : DW X F (.BoolOp .And (b :: rest) pos) tB) : DW X F (.BoolOp .And (a :: b :: rest) pos) (sAnd tA tB) := by
  obtain ⟨t, p, d⟩ := ha
  obtain ⟨u, q, d'⟩ := hb
  refine ⟨_, pw_and p q, fun σ I H e ps P Q s h k => ?_⟩
  refine d σ I H e ps _ _ s h fun b e1 I1 H1 h1 s1 => ?_
  cases b with
  | true => exact d' σ I1 H1 e1 ps _ _ s1 h1 k
  | false => exact k false e1 I1 H1 h1 s1
theorem dw_or (ha : DTe X F a tA) (hb : DW X F (.BoolOp .Or (b :: rest) pos) tB) : DW X F (.BoolOp .Or (a :: b :: rest) pos) (sOr tA tB) := by
  obtain ⟨t, p, d⟩ := ha
  obtain ⟨u, q, d'⟩ := hb
  refine ⟨_, pw_or p q, fun σ I H e ps P Q s h k => ?_⟩
  refine d σ I H e ps _ _ s h fun b e1 I1 H1 h1 s1 => ?_
  cases b with
  | true => exact k true e1 I1 H1 h1 s1
  | false => exact d' σ I1 H1 e1 ps _ _ s1 h1 k
theorem dt_w (h : DW X F a tA) : DTe X F a tA := by
  obtain ⟨t, p, d⟩ := h
  exact ⟨t, p.pt, d⟩
theorem dt_not (h : DTe X F a tA) : DTe X F (.UnaryOp .Not a pos) (sNot tA) := by
  obtain ⟨t, p, d⟩ := h
  refine ⟨_, pt_not p, fun σ I H e ps P Q s h k => ?_⟩
  exact d σ I H e ps _ _ s h fun b e1 I1 H1 h1 s1 => k (!b) e1 I1 H1 h1 s1
theorem de_one {op} (h : DE X F a f) : DE X F (.BoolOp op [a] pos) f := by
  obtain ⟨t, p, d⟩ := h
  exact ⟨t, pe_one p, d⟩
theorem de_and (ha : DE X F a f) (hb : DE X F (.BoolOp .And (b :: rest) pos) g) : DE X F (.BoolOp .And (a :: b :: rest) pos) (eAnd f g) := by
  obtain ⟨t, p, d⟩ := ha
  obtain ⟨u, q, d'⟩ := hb
  refine ⟨_, pe_and p q, fun σ I H e ps P Q s h k => ?_⟩
  refine d σ I H e ps _ _ s h fun x r e1 I1 H1 h1 s1 => ?_
  obtain ⟨b, v, h2⟩ := h1
  refine ⟨b, VwR.bl (s1.vw (qs := []) v), ?_⟩
  cases b with
  | true => exact d' σ I1 H1 e1 ps _ _ s1.weak h2 k
  | false => exact k _ _ e1 I1 H1 h2 (s1.weak.pushI (.bl false))
theorem de_or (ha : DE X F a f) (hb : DE X F (.BoolOp .Or (b :: rest) pos) g) : DE X F (.BoolOp .Or (a :: b :: rest) pos) (eOr f g) := by
  obtain ⟨t, p, d⟩ := ha
  obtain ⟨u, q, d'⟩ := hb
  refine ⟨_, pe_or p q, fun σ I H e ps P Q s h k => ?_⟩
  refine d σ I H e ps _ _ s h fun x r e1 I1 H1 h1 s1 => ?_
  obtain ⟨b, v, h2⟩ := h1
  refine ⟨b, VwR.bl (s1.vw (qs := []) v), ?_⟩
  cases b with
  | true => exact k _ _ e1 I1 H1 h2 (s1.weak.pushI (.bl true))
  | false => exact d' σ I1 H1 e1 ps _ _ s1.weak h2 k
theorem de_not (ha : DE X F a f) : DE X F (.UnaryOp .Not a pos) (eNot f) := by
  obtain ⟨t, p, d⟩ := ha
  refine ⟨_, pe_not p, fun σ I H e ps P Q s h k => ?_⟩
  refine d σ I H e ps _ _ s h fun x r e1 I1 H1 h1 s1 => ?_
  obtain ⟨b, v, h2⟩ := h1
  exact ⟨b, VwR.bl (s1.vw (qs := []) v), k _ _ e1 I1 H1 h2 (s1.weak.pushI (.bl _))⟩
theorem de_if {cd : Expr} (hc : DTe X F cd tA) (ha : DE X F a f) (hb : DE X F b g) : DE X F (.IfExp cd a b pos) (eIf tA f g) := by
  obtain ⟨tc, pc, dc⟩ := hc
  obtain ⟨t, p, d⟩ := ha
  obtain ⟨u, q, d'⟩ := hb
  refine ⟨_, pe_ifExp pc p q, fun σ I H e ps P Q s h k => ?_⟩
  refine dc σ I H e ps _ _ s h fun b e1 I1 H1 h1 s1 => ?_
  cases b with
  | true => exact d σ I1 H1 e1 ps _ _ s1 h1 k
  | false => exact d' σ I1 H1 e1 ps _ _ s1 h1 k
theorem de_ix {o : DO2} (hr : DIx X o) (h1 : DE X F a f) (h2 : DE X F b g) (hs : PlainIx b := by exact (fun _ _ => rfl)) (hK : F.K = X.K := by first | rfl | assumption) : DE X F (.Subscript a b pos) (eOp o f g) := by
  obtain ⟨r, p, d⟩ := hr
  obtain ⟨t1, p1, d1⟩ := h1
  obtain ⟨t2, p2, d2⟩ := h2
  exact ⟨_, pe_ix p p1 p2 hs, DT.op (by rw [hK]; exact d) d1 d2⟩
theorem dx_no : DO X F none pNo := ⟨_, po_none, fun σ I H e ps P Q s h k => k none e I H h s⟩
theorem dx_some (h : DE X F a f) : DO X F (some a) (pSome f) := by
  obtain ⟨t, p, d⟩ := h
  refine ⟨_, po_some p, fun σ I H e ps P Q s h k => ?_⟩
  refine d σ I H e ps _ _ s h fun x r e1 I1 H1 h1 s1 => ?_
  obtain ⟨i, v, h2⟩ := h1
  exact ⟨i, VwR.int (s1.vw (qs := []) v), k _ e1 I1 H1 h2 s1.weak⟩
theorem de_sl {lo hi : Option Expr} {l u : EvO} {p2 : Pos} (h1 : DE X F a f) (hl : DO X F lo l) (hu : DO X F hi u) (hK : F.K = X.K := by first | rfl | assumption) : DE X F (.Subscript a (.Slice lo hi none p2) pos) (eSl f l u) := by
  obtain ⟨t1, p1, d1⟩ := h1
  obtain ⟨tl, pl, dl⟩ := hl
  obtain ⟨tu, pu, du⟩ := hu
  refine ⟨_, pe_slice (sl_list.or (sl_tupA.or sl_str)) p1 pl pu, fun σ I H e ps P Q s h k => ?_⟩
  refine d1 σ I H e ps _ _ s h fun x r e1 I1 H1 h1 s1 => ?_
  refine dl σ I1 H1 e1 _ _ _ s1 h1 fun lo' e2 I2 H2 h2 s2 => ?_
  refine du σ I2 H2 e2 _ _ _ s2 h2 fun hi' e3 I3 H3 h3 s3 => ?_
  obtain ⟨c, v, q⟩ := h3
  have vw := s3.vw (qs := []) v
  have kk : Lands F.K I3 H3 (fun t => P (.ent t) e3) Q := fun z t I4 H4 p4 g4 r4 n4 => k z _ e3 I4 H4 p4 (s3.weak.pushG g4 r4 n4)
  cases c with
  | lst ds =>
    obtain ⟨a', xs, rfl, q1, rr⟩ := vw.lst s3.sub
    exact .inl ⟨a', xs, rfl, SqL.of q1, kk.lst s3.sub q rr.cut⟩
  | tup ds =>
    obtain ⟨a', xs, rfl, q1, rr⟩ := vw.tup s3.sub
    refine .inr (.inl ⟨a', xs, rfl, SqT.of q1, fun hw => ?_, fun _ => kk.tup s3.sub q rr.cut⟩)
    have e1 : cutL ds lo' hi' = ds := by
      unfold cutL
      rw [← rr.len, hw.1, hw.2]
      simp [rr.len]
    rw [show oSl (.tup ds) lo' hi' (fun t => P (.ent t) e3) = P (.im (.tup (cutL ds lo' hi'))) e3 from rfl, e1] at q
    rcases vw with vw | ⟨_, _, vw⟩
    · exact kk.imm s3.sub q vw
    · exact False.elim vw
  | str z => exact .inr (.inr ⟨z, vw.str, q.1, kk.imm s3.sub q.2 (.str _)⟩)
  | _ => exact False.elim q
theorem de_fld {n : Str} {C : Addr} (h1 : DE X F a f) (hc : Cls X.K C) (hn : NoAttr X.K C n) (hb : attributeBase a n X.env (eval a X.env) = eval a X.env := by rfl) : DE X F (.Attribute a n pos) (eUn (oFld n C) f) := by
  obtain ⟨t1, p1, d1⟩ := h1
  refine ⟨_, pe_fld p1 hb, fun σ I H e ps P Q s h k => ?_⟩
  refine d1 σ I H e ps _ _ s h fun x r e1 I1 H1 h1 s1 => ?_
  obtain ⟨c, v, q⟩ := h1
  have vw := s1.vw (qs := []) v
  cases c with
  | obj C' fs =>
    obtain ⟨rfl, d, hl, p⟩ := q
    obtain ⟨o, dx, gs, rfl, ho, m, rr⟩ := vw.obj s1.sub
    obtain ⟨y, hy, ry⟩ := Reps.look m rr hl
    exact ⟨o, _, dx, gs, y, rfl, ho, hc, hn, hy, k y _ e1 I1 H1 p (s1.weak.pushI ry)⟩
  | _ => exact False.elim q
end
/-! ### promises over data; calls -/
abbrev Con := List Ent → (Ent → List Ent → Prop) → (Addr → D → List Ent → Prop) → Prop
def spD (K : PySem.W.Frag) (con : Con) : Sp := fun vs H Q E => ∃ (I : Hp) (es : List Ent) (P : Ent → List Ent → Prop) (PX : Addr → D → List Ent → Prop), Sub I H ∧ EnvR K I H (vs.map some) (es.map some) ∧ con es P PX ∧
  (∀ r es' x I' H', P r es' → Sub I' H' → EnvR K I' H' (vs.map some ++ [some x]) (es'.map some ++ [some r]) → Step (es.map some) I H (es'.map some ++ [some r]) I' H' → Q x H') ∧
  (∀ C d es' x dd I' H', PX C d es' → Sub I' H' → EnvR K I' H' (vs.map some) (es'.map some) → Step (es.map some) I H (es'.map some) I' H' → Rep K I' x d → H' dd = some (.xd [(("value" : Str), x)]) → E (.ref C) (some dd) H')
inductive Ag where
  | v (d : D) | r (i : Nat)
abbrev Ag.rv : Ag → Rv
  | .v d => .im d
  | .r i => .slot i
abbrev EvG := En → (List Ag → En → Prop) → Prop
def DTG (F : Fr) (t : TA) (f : EvG) : Prop := ∀ (σ : L2.St) (I H : Hp) (e : En) (ps : Tm) (P : List Ag → En → Prop) (Q : List V → Hp → Prop), ST F σ I H e ps → f e P →
  (∀ xs as e' I' H', P as e' → xs.length = as.length → ST F σ I' H' e' (ps ++ xs.zip (as.map Ag.rv)) → Q xs H') → t σ H Q
structure DG (X : Cx) (F : Fr) (es : List Expr) (f : EvG) : Prop where
  ex : ∃ t, PA X es t ∧ DTG F t f
def gaNil : EvG := fun e P => P [] e
def gaV (f : EvF) (g : EvG) : EvG := fun e P => f e fun r e1 => ∃ d e2, frz e1 r = some (d, e2) ∧ g e2 fun as e3 => P (.v d :: as) e3
def gaR (i : Nat) (g : EvG) : EvG := fun e P => (∃ t, e[i]? = some (some t)) ∧ g e fun as e1 => P (.r i :: as) e1
section
variable {X : Cx} {F : Fr}
theorem dg_nil : DG X F [] gaNil := ⟨_, pa_nil, fun σ I H e ps P Q s h k => k [] [] e I H h rfl (by simpa using s)⟩
theorem dg_v {ex : Expr} {es : List Expr} {f : EvF} {g : EvG} (h1 : DE X F ex f) (h2 : DG X F es g) (hs : starEach (ex :: es) X.env = (false, eval ex X.env) :: starEach es X.env := by rfl) : DG X F (ex :: es) (gaV f g) := by
  obtain ⟨t1, p1, d1⟩ := h1
  obtain ⟨t2, p2, d2⟩ := h2
  refine ⟨_, pa_cons p1 p2 hs, fun σ I H e ps P Q s h k => ?_⟩
  refine d1 σ I H e ps _ _ s h fun x r e1 I1 H1 h1 s1 => ?_
  obtain ⟨d, e2, hf, h2⟩ := h1
  obtain ⟨I2, l2, s2⟩ := s1.frz hf
  refine d2 σ I2 H1 e2 _ _ _ s2 h2 fun xs as e3 I3 H3 h3 hl s3 => ?_
  refine k (x :: xs) (.v d :: as) e3 I3 H3 h3 (by simp [hl]) ?_
  rw [List.map_cons, List.zip_cons_cons]
  rw [List.append_assoc] at s3
  exact s3
theorem dg_r {i : Nat} {x : Str} {pos : Pos} {es : List Expr} {g : EvG} (hN : X.N[i]? = some x) (hv : Vis X.env.scope x) (h2 : DG X F es g) (hd : (x == ("__debug__" : Str)) = false := by decide) (hcd : (x == ("__classdict__" : Str)) = false := by decide)
    (hs : starEach (.Name x pos :: es) X.env = (false, eval (.Name x pos) X.env) :: starEach es X.env := by rfl) : DG X F (.Name x pos :: es) (gaR i g) := by
  obtain ⟨t2, p2, d2⟩ := h2
  refine ⟨_, pa_cons (pe_var hN hv hd hcd) p2 hs, fun σ I H e ps P Q s h k => ?_⟩
  obtain ⟨⟨t, ht⟩, h⟩ := h
  obtain ⟨y, e1, e2⟩ := s.slot ht
  refine ⟨y, e1, ?_⟩
  refine d2 σ I H e _ _ _ (s.pushS e1 ht) h fun xs as e3 I3 H3 h3 hl s3 => ?_
  refine k (y :: xs) (.r i :: as) e3 I3 H3 h3 (by simp [hl]) ?_
  rw [List.map_cons, List.zip_cons_cons]
  rw [List.append_assoc] at s3
  exact s3
end
/-- what is handed over -/
def entOf (e : En) : Ag → Option Ent
  | .v d => some (.imm d)
  | .r i => match e[i]? with
    | some (some t) => some t
    | _ => none
def entsOf (e : En) : List Ag → Option (List Ent)
  | [] => some []
  | a :: as => match entOf e a with
    | some t => match entsOf e as with
      | some ts => some (t :: ts)
      | none => none
    | none => none
def refsOf : List Ag → List Nat
  | [] => []
  | .v _ :: as => refsOf as
  | .r i :: as => i :: refsOf as
def oneEach : List Nat → Bool
  | [] => true
  | i :: is => !is.contains i && oneEach is
def backTo' (e : En) : List Ag → List Ent → Option En
  | [], [] => some e
  | .v _ :: as, _ :: ts => backTo' e as ts
  | .r i :: as, t :: ts => (backTo' e as ts).map fun e1 => e1.set i (some t)
  | _, _ => none
theorem entsOf_len {e : En} : ∀ {as : List Ag} {ts : List Ent}, entsOf e as = some ts → ts.length = as.length
  | [], ts, h => by cases h; rfl
  | a :: as, ts, h => by
    unfold entsOf at h
    split at h
    · split at h
      · rename_i q
        cases h
        simp [entsOf_len q]
      · cases h
    · cases h
theorem entsOf_at {e : En} : ∀ {as : List Ag} {ts : List Ent} {k : Nat} {t : Ent}, entsOf e as = some ts → ts[k]? = some t → ∃ a, as[k]? = some a ∧ entOf e a = some t
  | [], ts, k, t, h, q => by cases h; simp at q
  | a :: as, ts, k, t, h, q => by
    unfold entsOf at h
    split at h
    · rename_i t0 h0
      split at h
      · rename_i ts' h1
        cases h
        cases k with
        | zero => simp at q; subst q; exact ⟨a, rfl, h0⟩
        | succ k =>
          obtain ⟨b, z1, z2⟩ := entsOf_at (k := k) h1 (by simpa using q)
          exact ⟨b, by simpa using z1, z2⟩
      · cases h
    · cases h
theorem mem_refs : ∀ {as : List Ag} {k i : Nat}, as[k]? = some (.r i) → i ∈ refsOf as
  | [], k, i, h => by simp at h
  | .v _ :: as, 0, i, h => by simp at h
  | .v _ :: as, k + 1, i, h => mem_refs (as := as) (k := k) (by simpa using h)
  | .r j :: as, 0, i, h => by
    simp at h
    subst h
    exact List.mem_cons_self
  | .r j :: as, k + 1, i, h => List.mem_cons_of_mem _ (mem_refs (as := as) (k := k) (by simpa using h))
theorem refs_one : ∀ {as : List Ag} {k l i : Nat}, oneEach (refsOf as) = true → as[k]? = some (.r i) → as[l]? = some (.r i) → k = l
  | [], k, l, i, _, h, _ => by simp at h
  | .v _ :: as, 0, l, i, _, h, _ => by simp at h
  | .v _ :: as, k + 1, 0, i, _, _, h => by simp at h
  | .v _ :: as, k + 1, l + 1, i, o, h, h' => by
    have z := refs_one (as := as) (k := k) (l := l) o (by simpa using h) (by simpa using h')
    omega
  | .r j :: as, 0, 0, i, _, _, _ => rfl
  | .r j :: as, 0, l + 1, i, o, h, h' => by
    simp at h
    subst h
    unfold refsOf oneEach at o
    rw [Bool.and_eq_true] at o
    have m := mem_refs (as := as) (k := l) (by simpa using h')
    rw [List.contains_iff_mem.mpr m] at o
    exact absurd o.1 (by decide)
  | .r j :: as, k + 1, 0, i, o, h', h => by
    simp at h
    subst h
    unfold refsOf oneEach at o
    rw [Bool.and_eq_true] at o
    have m := mem_refs (as := as) (k := k) (by simpa using h')
    rw [List.contains_iff_mem.mpr m] at o
    exact absurd o.1 (by decide)
  | .r j :: as, k + 1, l + 1, i, o, h, h' => by
    unfold refsOf oneEach at o
    rw [Bool.and_eq_true] at o
    have z := refs_one (as := as) (k := k) (l := l) o.2 (by simpa using h) (by simpa using h')
    omega
/-- what stands in a slot behind a call -/
theorem backTo_at : ∀ {e e2 : En} {as : List Ag} {ts : List Ent} {j : Nat} {t : Ent}, backTo' e as ts = some e2 → oneEach (refsOf as) = true → e2[j]? = some (some t) → (e[j]? = some (some t) ∧ j ∉ refsOf as) ∨ ∃ k : Nat, as[k]? = some (Ag.r j) ∧ ts[k]? = some t
  | e, e2, [], [], j, t, h, _, q => by cases h; exact .inl ⟨q, by simp [refsOf]⟩
  | e, e2, [], _ :: _, j, t, h, _, q => by simp [backTo'] at h
  | e, e2, .v _ :: as, [], j, t, h, _, q => by simp [backTo'] at h
  | e, e2, .r _ :: as, [], j, t, h, _, q => by simp [backTo'] at h
  | e, e2, .v _ :: as, u :: ts, j, t, h, o, q => by
    rcases backTo_at (as := as) (ts := ts) h o q with z | ⟨k, z1, z2⟩
    · exact .inl z
    · exact .inr ⟨k + 1, by simpa using z1, by simpa using z2⟩
  | e, e2, .r i :: as, u :: ts, j, t, h, o, q => by
    unfold backTo' at h
    cases hb : backTo' e as ts with
    | none => rw [hb] at h; cases h
    | some e1 =>
      rw [hb] at h
      cases h
      unfold refsOf oneEach at o
      rw [Bool.and_eq_true] at o
      by_cases hj : j = i
      · subst hj
        have hl := (List.getElem?_eq_some_iff.mp q).1
        rw [List.length_set] at hl
        rw [List.getElem?_set_self hl] at q
        cases q
        exact .inr ⟨0, rfl, rfl⟩
      · rw [List.getElem?_set_ne (Ne.symm hj)] at q
        rcases backTo_at (as := as) (ts := ts) hb o.2 q with ⟨z, n⟩ | ⟨k, z1, z2⟩
        · refine .inl ⟨z, ?_⟩
          unfold refsOf
          rw [List.mem_cons]
          rintro (w | w)
          · exact hj w
          · exact n w
        · exact .inr ⟨k + 1, by simpa using z1, by simpa using z2⟩
theorem backTo_len : ∀ {e e2 : En} {as : List Ag} {ts : List Ent}, backTo' e as ts = some e2 → e2.length = e.length
  | e, e2, [], [], h => by cases h; rfl
  | e, e2, [], _ :: _, h => by simp [backTo'] at h
  | e, e2, .v _ :: as, [], h => by simp [backTo'] at h
  | e, e2, .r _ :: as, [], h => by simp [backTo'] at h
  | e, e2, .v _ :: as, _ :: ts, h => backTo_len (as := as) (ts := ts) h
  | e, e2, .r i :: as, u :: ts, h => by
    unfold backTo' at h
    cases hb : backTo' e as ts with
    | none => rw [hb] at h; cases h
    | some e1 =>
      rw [hb] at h
      cases h
      rw [List.length_set, backTo_len hb]
theorem backTo_alive : ∀ {e e2 : En} {as : List Ag} {ts : List Ent} {j : Nat}, backTo' e as ts = some e2 → (∃ t, e[j]? = some (some t)) → ∃ t, e2[j]? = some (some t)
  | e, e2, [], [], j, h, q => by cases h; exact q
  | e, e2, [], _ :: _, j, h, q => by simp [backTo'] at h
  | e, e2, .v _ :: as, [], j, h, q => by simp [backTo'] at h
  | e, e2, .r _ :: as, [], j, h, q => by simp [backTo'] at h
  | e, e2, .v _ :: as, _ :: ts, j, h, q => backTo_alive (as := as) (ts := ts) h q
  | e, e2, .r i :: as, u :: ts, j, h, q => by
    unfold backTo' at h
    cases hb : backTo' e as ts with
    | none => rw [hb] at h; cases h
    | some e1 =>
      rw [hb] at h
      cases h
      exact alive_set (backTo_alive hb q)
section
variable {F : Fr} {σ : L2.St} {I H I' H' : Hp} {e e2 : En} {ps : Tm} {xs : List V} {as : List Ag} {es es' : List Ent}
theorem zip_at {α β : Type} : ∀ {xs : List α} {ys : List β} {k : Nat} {x : α} {y : β}, xs[k]? = some x → ys[k]? = some y → (xs.zip ys)[k]? = some (x, y)
  | [], _, k, x, y, h, _ => by simp at h
  | _ :: _, [], k, x, y, _, h => by simp at h
  | _ :: _, _ :: _, 0, x, y, h, h' => by simp at h h'; subst h; subst h'; rfl
  | _ :: xs, _ :: ys, k + 1, x, y, h, h' => by
    have := zip_at (xs := xs) (ys := ys) (k := k) (x := x) (y := y) (by simpa using h) (by simpa using h')
    simpa using this
theorem ST.temp? {k : Nat} {x : V} {r : Rv} {qs : Tm} (s : ST F σ I H e (ps ++ qs)) (h : qs[k]? = some (x, r)) : ∃ ps' qs', ps ++ qs = ps' ++ (x, r) :: qs' := by
  obtain ⟨hk, e1⟩ := List.getElem?_eq_some_iff.mp h
  refine ⟨ps ++ qs.take k, qs.drop (k + 1), ?_⟩
  rw [List.append_assoc, ← e1, ← List.drop_eq_getElem_cons hk, List.take_append_drop]
/-- what a callee gets -/
theorem ST.give (s : ST F σ I H e (ps ++ xs.zip (as.map Ag.rv))) (hl : xs.length = as.length) (h : entsOf e as = some es) (o : oneEach (refsOf as) = true) : EnvR F.K I H (xs.map some) (es.map some) where
  len := by rw [List.length_map, List.length_map, entsOf_len h, hl]
  at_ := fun k t q => by
    rw [List.getElem?_map] at q
    cases z : es[k]? with
    | none => rw [z] at q; cases q
    | some t' =>
      rw [z] at q
      cases q
      obtain ⟨a, ha, hb⟩ := entsOf_at h z
      have hk : k < xs.length := by rw [hl]; exact (List.getElem?_eq_some_iff.mp ha).1
      refine ⟨xs[k], by rw [List.getElem?_map, List.getElem?_eq_getElem hk]; rfl, ?_⟩
      have hz := zip_at (List.getElem?_eq_getElem hk) (show (as.map Ag.rv)[k]? = some a.rv by rw [List.getElem?_map, ha]; rfl)
      obtain ⟨ps', qs', e1⟩ := s.temp? hz
      rw [e1] at s
      cases a with
      | v d => cases hb; exact s.temp
      | r i =>
        have al := (s.ali (xs[k], .slot i) (by simp) i rfl).1
        unfold entOf at hb
        dsimp only at hb
        split at hb
        · rename_i t0 h0
          cases hb
          obtain ⟨y, q1, q2⟩ := s.slot h0
          rw [al] at q1
          cases q1
          exact q2
        · cases hb
  sep := fun k l t u a q1 q2 m1 m2 => by
    rw [List.getElem?_map] at q1 q2
    cases z1 : es[k]? with
    | none => rw [z1] at q1; cases q1
    | some t' =>
    cases z2 : es[l]? with
    | none => rw [z2] at q2; cases q2
    | some u' =>
    rw [z1] at q1
    rw [z2] at q2
    cases q1
    cases q2
    obtain ⟨b, b1, b2⟩ := entsOf_at h z1
    obtain ⟨c, c1, c2⟩ := entsOf_at h z2
    cases b with
    | v d => cases b2; simp at m1
    | r i =>
    cases c with
    | v d => cases c2; simp at m2
    | r j =>
      unfold entOf at b2 c2
      dsimp only at b2 c2
      split at b2
      · rename_i t0 h0
        cases b2
        split at c2
        · rename_i u0 h1
          cases c2
          have hi := (List.getElem?_eq_some_iff.mp h0).1
          have hj := (List.getElem?_eq_some_iff.mp h1).1
          have ij := s.env.sep i j t u a (by rw [List.getElem?_append_left hi]; exact h0) (by rw [List.getElem?_append_left hj]; exact h1) m1 m2
          subst ij
          exact refs_one o b1 c1
        · cases c2
      · cases b2
end
section
variable {F : Fr} {σ : L2.St} {I H I' H' : Hp} {e e2 : En} {ps : Tm} {xs : List V} {as : List Ag} {es es' : List Ent} {c : En}
theorem given_in (h : entsOf e as = some es) {a : Addr} (ha : a ∈ adr (es.map some)) : ∃ i t, i ∈ refsOf as ∧ e[i]? = some (some t) ∧ a ∈ t.adr := by
  obtain ⟨k, t, q, m⟩ := mem_adr.mp ha
  rw [List.getElem?_map] at q
  cases z : es[k]? with
  | none => rw [z] at q; cases q
  | some t' =>
    rw [z] at q
    cases q
    obtain ⟨b, b1, b2⟩ := entsOf_at h z
    cases b with
    | v d => cases b2; simp at m
    | r i =>
      unfold entOf at b2
      dsimp only at b2
      split at b2
      · rename_i t0 h0
        cases b2
        exact ⟨i, t, mem_refs b1, h0, m⟩
      · cases b2
theorem EntR.kept {K : PySem.W.Frag} {x : V} {t : Ent} (r : EntR K I H x t) (st : Step (es.map some) I H c I' H') (n : ∀ a ∈ t.adr, a ∉ adr (es.map some)) : EntR K I' H' x t :=
  r.mono st.imm fun a ha => by
    refine ⟨?_, fun o q => st.keep a o q (n a ha)⟩
    obtain ⟨⟨o, q1, qt⟩, q2⟩ := r.has ha
    cases z : I' a with
    | none => rfl
    | some u =>
      rcases st.new a u z with w | w | w
      · rw [q2] at w; cases w
      · exact absurd w (n a ha)
      · obtain ⟨xs, e⟩ := w o q1
        exact absurd e (qt xs)
/-- behind a call -/
theorem ST.took (s : ST F σ I H e (ps ++ xs.zip (as.map Ag.rv))) (hl : xs.length = as.length) (h : entsOf e as = some es) (o : oneEach (refsOf as) = true) (hb : backTo' e as es' = some e2) (sub : Sub I' H')
    (env : EnvR F.K I' H' (xs.map some) (es'.map some)) (st : Step (es.map some) I H c I' H') (hc : ∀ a, a ∈ adr (es'.map some) → a ∈ adr c) : ST F σ I' H' e2 ps := by
  have s0 : ST F σ I H e ps := s.weak
  have l2 := backTo_len hb
  -- what is not handed over stays
  have n1 : ∀ j u a, e[j]? = some (some u) → j ∉ refsOf as → a ∈ u.adr → a ∉ adr (es.map some) := fun j u a hj nj ha z => by
    obtain ⟨i, t, hi, ht, m⟩ := given_in h z
    have li := (List.getElem?_eq_some_iff.mp ht).1
    have lj := (List.getElem?_eq_some_iff.mp hj).1
    have ij := s0.env.sep i j t u a (by rw [List.getElem?_append_left li]; exact ht) (by rw [List.getElem?_append_left lj]; exact hj) m ha
    exact nj (ij ▸ hi)
  have n2 : ∀ j u a, e.length ≤ j → (e ++ tn ps)[j]? = some (some u) → a ∈ u.adr → a ∉ adr (es.map some) := fun j u a lj hj ha z => by
    obtain ⟨i, t, hi, ht, m⟩ := given_in h z
    have li := (List.getElem?_eq_some_iff.mp ht).1
    have ij := s0.env.sep i j t u a (by rw [List.getElem?_append_left li]; exact ht) hj m ha
    omega
  have at2 : ∀ j u, (e2 ++ tn ps)[j]? = some (some u) → (∃ y, (σ ++ tv ps)[j]? = some (some y) ∧ EntR F.K I' H' y u) ∧ ((∃ k : Nat, as[k]? = some (Ag.r j) ∧ es'[k]? = some u) ∨ ((e ++ tn ps)[j]? = some (some u) ∧ ∀ a ∈ u.adr, a ∉ adr (es.map some))) := fun j u q => by
    by_cases lj : j < e2.length
    · rw [List.getElem?_append_left lj] at q
      have lj' : j < σ.length := by rw [← s0.len, ← l2]; exact lj
      rcases backTo_at hb o q with ⟨z, nz⟩ | ⟨k, z1, z2⟩
      · obtain ⟨y, y1, y2⟩ := s0.slot z
        refine ⟨⟨y, by rw [List.getElem?_append_left lj']; exact y1, y2.kept st fun a ha => n1 j u a z nz ha⟩, .inr ⟨by rw [List.getElem?_append_left (by rw [← l2]; exact lj)]; exact z, fun a ha => n1 j u a z nz ha⟩⟩
      · have hk : k < xs.length := by rw [hl]; exact (List.getElem?_eq_some_iff.mp z1).1
        obtain ⟨y, y1, y2⟩ := env.at_ k u (by rw [List.getElem?_map, z2]; rfl)
        rw [List.getElem?_map, List.getElem?_eq_getElem hk] at y1
        cases y1
        have hz := zip_at (List.getElem?_eq_getElem hk) (show (as.map Ag.rv)[k]? = some (Rv.slot j) by rw [List.getElem?_map, z1]; rfl)
        obtain ⟨ps', qs', e1⟩ := s.temp? hz
        rw [e1] at s
        have al := (s.ali (xs[k], .slot j) (by simp) j rfl).1
        exact ⟨⟨_, by rw [List.getElem?_append_left lj']; exact al, y2⟩, .inl ⟨k, z1, z2⟩⟩
    · rw [List.getElem?_append_right (by omega)] at q
      have q' : (e ++ tn ps)[j]? = some (some u) := by rw [List.getElem?_append_right (by omega), ← l2]; exact q
      obtain ⟨y, y1, y2⟩ := s0.env.at_ j u q'
      have nn : ∀ a ∈ u.adr, a ∉ adr (es.map some) := fun a ha => n2 j u a (by omega) q' ha
      exact ⟨⟨y, y1, y2.kept st nn⟩, .inr ⟨q', nn⟩⟩
  have old : ∀ j u a, (e2 ++ tn ps)[j]? = some (some u) → a ∈ u.adr → ((∃ k : Nat, as[k]? = some (Ag.r j) ∧ es'[k]? = some u) → a ∈ adr (es.map some) ∨ H a = none) := fun j u a q ha ⟨k, z1, z2⟩ =>
    st.own a (hc a (mem_adr.mpr ⟨k, u, by rw [List.getElem?_map, z2]; rfl, ha⟩))
  have oldin : ∀ a, a ∈ adr (es.map some) → a ∈ adr (e ++ tn ps) := fun a ha => by
    obtain ⟨i, t, hi, ht, m⟩ := given_in h ha
    exact mem_adr.mpr ⟨i, t, by rw [List.getElem?_append_left (List.getElem?_eq_some_iff.mp ht).1]; exact ht, m⟩
  refine ⟨sub, by rw [l2, s0.len], ⟨?_, fun j u q => (at2 j u q).1, fun j k u v a q1 q2 m1 m2 => ?_⟩, fun p hp j w => ⟨(s0.ali p hp j w).1, backTo_alive hb (s0.ali p hp j w).2⟩, s0.base.trans ⟨st.imm, fun a ob q n => st.keep a ob q fun z => n (oldin a z), fun a ha => ?_, fun a ob q => ?_⟩⟩
  · rw [List.length_append, List.length_append, l2, s0.len]
    unfold tn tv
    rw [List.length_map, List.length_map]
  · rcases (at2 j u q1).2 with ⟨k1, z1, z2⟩ | ⟨z1, z2⟩ <;> rcases (at2 k v q2).2 with ⟨k2, w1, w2⟩ | ⟨w1, w2⟩
    · have kk := env.sep k1 k2 u v a (by rw [List.getElem?_map, z2]; rfl) (by rw [List.getElem?_map, w2]; rfl) m1 m2
      subst kk
      rw [z1] at w1
      cases w1
      rfl
    · exfalso
      obtain ⟨⟨ob, hx, _⟩, _⟩ := s0.env.has (mem_adr.mpr ⟨k, v, w1, m2⟩)
      rcases old j u a q1 m1 ⟨k1, z1, z2⟩ with z | z
      · exact w2 a m2 z
      · rw [hx] at z; cases z
    · exfalso
      obtain ⟨⟨ob, hx, _⟩, _⟩ := s0.env.has (mem_adr.mpr ⟨j, u, z1, m1⟩)
      rcases old k v a q2 m2 ⟨k2, w1, w2⟩ with z | z
      · exact z2 a m1 z
      · rw [hx] at z; cases z
    · exact s0.env.sep j k u v a z1 w1 m1 m2
  · obtain ⟨j, u, q, m⟩ := mem_adr.mp ha
    rcases (at2 j u q).2 with z | ⟨z1, z2⟩
    · rcases old j u a q m z with w | w
      · exact .inl (oldin a w)
      · exact .inr w
    · exact .inl (mem_adr.mpr ⟨j, u, z1, m⟩)
  · rcases st.new a ob q with w | w | w
    · exact .inl w
    · exact .inr (.inl (oldin a w))
    · exact .inr (.inr w)
theorem ST.tookR {x : V} {t : Ent} (s : ST F σ I H e (ps ++ xs.zip (as.map Ag.rv))) (hl : xs.length = as.length) (h : entsOf e as = some es) (o : oneEach (refsOf as) = true) (hb : backTo' e as es' = some e2) (sub : Sub I' H')
    (env : EnvR F.K I' H' (xs.map some ++ [some x]) (es'.map some ++ [some t])) (hes : es'.length = es.length) (st : Step (es.map some) I H (es'.map some ++ [some t]) I' H') : ST F σ I' H' e2 (ps ++ [(x, .ent t)]) := by
  have lx : (es'.map some).length = (xs.map (some : V → Option V)).length := by rw [List.length_map, List.length_map, hes, entsOf_len h, hl]
  have s2 := s.took hl h o hb sub (EnvR.pre lx env) st fun a ha => by rw [adr_app]; exact List.mem_append_left _ ha
  have s0 : ST F σ I H e ps := s.weak
  have r : EntR F.K I' H' x t := by
    obtain ⟨y, y1, y2⟩ := env.at_ (es'.map some).length t (by rw [List.getElem?_append_right (Nat.le_refl _), Nat.sub_self]; rfl)
    rw [lx, List.getElem?_append_right (Nat.le_refl _), Nat.sub_self] at y1
    cases y1
    exact y2
  have frm : ∀ a ∈ t.adr, a ∈ adr (es.map some) ∨ H a = none := fun a ha => st.own a (mem_push.mpr (.inr ⟨t, rfl, ha⟩))
  refine s2.pushE r fun a ha => ⟨fun z => ?_, ?_⟩
  · obtain ⟨j, u, q, m⟩ := mem_adr.mp z
    have lj2 := backTo_len hb
    by_cases lj : j < e2.length
    · rw [List.getElem?_append_left lj] at q
      rcases backTo_at hb o q with ⟨w, nw⟩ | ⟨k, w1, w2⟩
      · obtain ⟨⟨ob, hx, _⟩, _⟩ := s0.env.has (mem_adr.mpr ⟨j, u, by rw [List.getElem?_append_left (by omega)]; exact w, m⟩)
        rcases frm a ha with y | y
        · obtain ⟨i, t', hi, ht, m'⟩ := given_in h y
          have ij := s0.env.sep i j t' u a (by rw [List.getElem?_append_left (List.getElem?_eq_some_iff.mp ht).1]; exact ht) (by rw [List.getElem?_append_left (by omega)]; exact w) m' m
          exact nw (ij ▸ hi)
        · rw [hx] at y; cases y
      · have kl : k < (es'.map some).length := by rw [List.length_map]; exact (List.getElem?_eq_some_iff.mp w2).1
        have kk := env.sep k (es'.map some).length u t a (by rw [List.getElem?_append_left kl, List.getElem?_map, w2]; rfl) (by rw [List.getElem?_append_right (Nat.le_refl _), Nat.sub_self]; rfl) m ha
        omega
    · rw [List.getElem?_append_right (by omega)] at q
      have q' : (e ++ tn ps)[j]? = some (some u) := by rw [List.getElem?_append_right (by omega), ← lj2]; exact q
      obtain ⟨⟨ob, hx, _⟩, _⟩ := s0.env.has (mem_adr.mpr ⟨j, u, q', m⟩)
      rcases frm a ha with y | y
      · obtain ⟨i, t', hi, ht, m'⟩ := given_in h y
        have ij := s0.env.sep i j t' u a (by rw [List.getElem?_append_left (List.getElem?_eq_some_iff.mp ht).1]; exact ht) q' m' m
        have := (List.getElem?_eq_some_iff.mp ht).1
        omega
      · rw [hx] at y; cases y
  · rcases frm a ha with y | y
    · obtain ⟨i, t', hi, ht, m'⟩ := given_in h y
      exact s0.base.own a (mem_adr.mpr ⟨i, t', by rw [List.getElem?_append_left (List.getElem?_eq_some_iff.mp ht).1]; exact ht, m'⟩)
    · exact s0.base.free y
end
/-- what a frame wants of an exception is what it says over data -/
def FrOk (F : Fr) : Prop := ∀ (σ : L2.St) (I H : Hp) (e : En) (ps : Tm) (C : Addr) (d : D) (x : V) (dd : Addr), ST F σ I H e ps → F.PX C d e → Rep F.K I x d → H dd = some (.xd [(("value" : Str), x)]) → F.W (.ref C) (some dd) σ H
def eCall (PX : Addr → D → En → Prop) (con : Con) (g : EvG) : EvF := fun e P => g e fun as e1 => ∃ es, entsOf e1 as = some es ∧ oneEach (refsOf as) = true ∧
  con es (fun t es' => es'.length = es.length ∧ ∃ e2, backTo' e1 as es' = some e2 ∧ P (.ent t) e2) (fun C d es' => ∃ e2, backTo' e1 as es' = some e2 ∧ PX C d e2)
section
variable {X : Cx} {F : Fr} {k : Nat} {f : Addr} {fd : FuncData} {pn : List Str} {con : Con} {x : Str} {p pos : Pos} {ex : Expr} {exs : List Expr} {g : EvG}
theorem DT.call {t : TA} (fo : FrOk F) (d : DTG F t g) : DT F (tCallS (spD F.K con) (WE F.W) t) (eCall F.PX con g) := fun σ I H e ps P Q s h k => by
  refine d σ I H e ps _ _ s h fun xs as e1 I1 H1 h1 hl s1 => ?_
  obtain ⟨es, he, o, hc⟩ := h1
  refine ⟨I1, es, _, _, s1.sub, s1.give hl he o, hc, fun r es' x I2 H2 hp sub2 env2 st2 => ?_, fun C d es' x dd I2 H2 hp sub2 env2 st2 rx hx => ?_⟩
  · obtain ⟨hes, e2, hb, hp⟩ := hp
    exact k x _ e2 I2 H2 hp (s1.tookR hl he o hb sub2 env2 hes st2)
  · obtain ⟨e2, hb, hp⟩ := hp
    exact fo σ I2 H2 e2 ps C d x dd (s1.took hl he o hb sub2 env2 st2 fun _ z => z) hp rx hx
theorem de_call (G : FnOk X.prog X.w X.K X.mg X.base (L2.CX X.prog X.w) k f fd pn (spD X.K con)) (hr : Room k X.A) (hg : Gl X x) (hm : X.mg x = some (.ref f)) (hk : PySem.W.keepIn X.K (.ref f) = true) (hb : Binds X.K fd pn []) (tk : Takes X F.W) (fo : FrOk F) (ha : DG X F (ex :: exs) g)
    (hK : F.K = X.K := by first | rfl | assumption) (hdb : (x == ("__debug__" : Str)) = false := by decide) (he : starEach (ex :: exs) X.env = (false, eval ex X.env) :: starEach exs X.env := by rfl) (hpl : (backTo pos (starEach exs X.env)).any (·.1) = false := by rfl) :
    DE X F (.Call (.Name x p) (ex :: exs) [] pos) (eCall F.PX con g) := by
  obtain ⟨t, pa, d⟩ := ha
  refine ⟨_, pe_callS G hr hg hm hk hb (fun σ => passAt tk σ) pa hdb he hpl, ?_⟩
  have z := DT.call (con := con) fo d
  rw [hK] at z
  exact z
end
/-! ### statements -/
structure Ed where
  nx : En → Prop
  rt : Rv → En → Prop
  bk : En → Prop := fun _ => False
  ct : En → Prop := fun _ => False
abbrev SvF := En → Ed → Prop
/-- no slot of the frame is held -/
def Imms (ps : Tm) : Prop := ∀ p ∈ ps, ∃ d, p.2 = Rv.ent (.imm d)
/-- .. none of these slots -/
def NoSl (sl : List Nat) (ps : Tm) : Prop := ∀ p ∈ ps, ∀ j, p.2 = Rv.slot j → j ∉ sl
theorem Imms.no {ps : Tm} (h : Imms ps) (sl : List Nat) : NoSl sl ps := fun p hp j q => by
  obtain ⟨t, ht⟩ := h p hp
  rw [ht] at q
  cases q
structure EdR (F : Fr) (ps : Tm) (d : Ed) (D : Ends) : Prop where
  nx : ∀ σ' I' H' e', d.nx e' → ST F σ' I' H' e' ps → D.nx σ' H'
  rt : ∀ x r σ' I' H' e', d.rt r e' → ST F σ' I' H' e' (ps ++ [(x, r)]) → D.rt x H'
  bk : ∀ σ' I' H' e', d.bk e' → ST F σ' I' H' e' ps → D.bk σ' H'
  ct : ∀ σ' I' H' e', d.ct e' → ST F σ' I' H' e' ps → D.ct σ' H'
def DTS (F : Fr) (t : TS) (g : SvF) : Prop := ∀ (σ : L2.St) (I H : Hp) (e : En) (ps : Tm) (d : Ed) (D : Ends), Imms ps → ST F σ I H e ps → g e d → EdR F ps d D → t D σ H
structure DS (X : Cx) (F : Fr) (st : Stmt) (g : SvF) : Prop where
  ex : ∃ t, PS X st t ∧ DTS F t g
structure DSs (X : Cx) (F : Fr) (st : List Stmt) (g : SvF) : Prop where
  ex : ∃ t, PSs X st t ∧ DTS F t g
def asg (e : En) (i : Nat) (r : Rv) : Option En := match e[i]? with
  | none => none
  | some _ => match r with
    | .ent t => some (e.set i (some t))
    | .slot j => match frz e (.slot j) with
      | some (d, e1) => some (e1.set i (some (.imm d)))
      | none => none
def mov (e : En) : Rv → Option (Ent × En)
  | .ent t => some (t, e)
  | .slot i => match e[i]? with
    | some (some (.imm d)) => some (.imm d, e)
    | some (some (.own a d)) => some (.own a d, e.set i none)
    | _ => none
section
variable {F : Fr} {σ : L2.St} {I H I' H' : Hp} {e e' : En} {ps qs : Tm} {i : Nat} {x : V}
theorem ST.asgE {t : Ent} (s : ST F σ I H e (ps ++ [(x, .ent t)])) (hps : NoSl [i] ps) (hi : i < e.length) : ST F (σ.set i (some x)) I H (e.set i (some t)) ps := by
  have s0 : ST F σ I H e ps := s.weak
  have r : EntR F.K I H x t := ST.temp (qs := []) s
  have lst := tm_at (ps := ps) (qs := []) (x := x) (r := .ent t) s.len
  have hlen : (e ++ tn ps).length = σ.length + ps.length := by
    rw [List.length_append, s.len]
    unfold tn
    rw [List.length_map]
  refine ⟨s.sub, by rw [List.length_set, List.length_set, s.len], ?_, fun p hp j q => ?_, ?_⟩
  · have z := s0.env.set (i := i) (x := x) (t := t) (by rw [List.length_append]; omega) r fun a ha j u hj hu m => by
      have lj := (List.getElem?_eq_some_iff.mp hu).1
      have z := s.env.sep j (σ.length + ps.length) u t a (by rw [tn_app, ← List.append_assoc, List.getElem?_append_left lj]; exact hu) lst.2 m ha
      omega
    rw [List.set_append_left _ _ (by rw [← s.len]; exact hi), List.set_append_left _ _ hi] at z
    exact z
  · have hj : j ≠ i := fun z => hps p hp j q (by simp [z])
    rw [List.getElem?_set_ne (Ne.symm hj)]
    exact ⟨(s0.ali p hp j q).1, alive_set (s0.ali p hp j q).2⟩
  · have b := s.base
    refine ⟨b.imm, b.keep, fun a ha => b.own a ?_, b.new⟩
    obtain ⟨j, u, q, m⟩ := mem_adr.mp ha
    rw [← List.set_append_left _ _ hi] at q
    by_cases hj : j = i
    · subst hj
      have l1 := (List.getElem?_eq_some_iff.mp q).1
      rw [List.length_set] at l1
      rw [List.getElem?_set_self l1] at q
      cases q
      exact mem_adr.mpr ⟨_, t, lst.2, m⟩
    · rw [List.getElem?_set_ne (Ne.symm hj)] at q
      have lj := (List.getElem?_eq_some_iff.mp q).1
      exact mem_adr.mpr ⟨j, u, by rw [tn_app, ← List.append_assoc, List.getElem?_append_left lj]; exact q, m⟩
theorem frz_len {e e1 : En} {r : Rv} {d : D} (h : frz e r = some (d, e1)) : e1.length = e.length := by
  cases r with
  | ent t => cases t <;> cases h <;> rfl
  | slot i =>
    unfold TK.frz at h
    dsimp only at h
    split at h
    · cases h; rfl
    · cases h; rw [List.length_set]
    · cases h
theorem ST.asg {r : Rv} (s : ST F σ I H e (ps ++ [(x, r)])) (hps : NoSl [i] ps) (h : asg e i r = some e') : ∃ I', ST F (σ.set i (some x)) I' H e' ps := by
  unfold TK.asg at h
  split at h
  · cases h
  · rename_i o q
    have hi := (List.getElem?_eq_some_iff.mp q).1
    cases r with
    | ent t => cases h; exact ⟨I, s.asgE hps hi⟩
    | slot j =>
      dsimp only at h
      split at h
      · rename_i d e1 hf
        cases h
        obtain ⟨I1, _, s1⟩ := s.frz hf
        exact ⟨I1, s1.asgE hps (by rw [frz_len hf]; exact hi)⟩
      · cases h
/-- an own thing is changed -/
theorem ST.mut {a : Addr} {d d' : D} {o : HO} (s : ST F σ I H e ps) (q : e[i]? = some (some (.own a d))) (w : OwnR F.K I (upd H a o) a d') : ST F σ I (upd H a o) (e.set i (some (.own a d'))) ps := by
  have hi := (List.getElem?_eq_some_iff.mp q).1
  obtain ⟨y, y1, y2, n, y3⟩ := s.slot q
  have qc : (e ++ tn ps)[i]? = some (some (.own a d)) := by rw [List.getElem?_append_left hi]; exact q
  have ain : a ∈ adr (e ++ tn ps) := mem_adr.mpr ⟨i, _, qc, by simp⟩
  have ec : (e ++ tn ps).set i (some (.own a d')) = e.set i (some (.own a d')) ++ tn ps := List.set_append_left _ _ hi
  have sub_adr : ∀ b, b ∈ adr (e.set i (some (.own a d')) ++ tn ps) → b ∈ adr (e ++ tn ps) := fun b hb => by
    obtain ⟨j, u, z, m⟩ := mem_adr.mp hb
    rw [← ec] at z
    by_cases hj : j = i
    · subst hj
      have l1 := (List.getElem?_eq_some_iff.mp z).1
      rw [List.length_set] at l1
      rw [List.getElem?_set_self l1] at z
      cases z
      simp at m
      subst m
      exact ain
    · rw [List.getElem?_set_ne (Ne.symm hj)] at z
      exact mem_adr.mpr ⟨j, u, z, m⟩
  refine ⟨fun b u z => ?_, by rw [List.length_set]; exact s.len, ⟨?_, fun j u z => ?_, fun j k u v b z1 z2 m1 m2 => ?_⟩, fun p hp j w => ⟨(s.ali p hp j w).1, alive_set (s.ali p hp j w).2⟩, s.base.trans ⟨Le.refl, fun b u z nb => ?_, fun b hb => .inl (sub_adr b hb), fun b u z => .inl z⟩⟩
  · have hb : b ≠ a := fun w => by rw [w, n] at z; cases z
    rw [upd_ne hb]
    exact s.sub b u z
  · have l := s.env.len
    rw [← ec, List.length_set]
    exact l
  · rw [← ec] at z
    by_cases hj : j = i
    · subst hj
      have l1 := (List.getElem?_eq_some_iff.mp z).1
      rw [List.length_set] at l1
      rw [List.getElem?_set_self l1] at z
      cases z
      have hjs : j < σ.length := by rw [← s.len]; exact hi
      exact ⟨y, by rw [List.getElem?_append_left hjs]; exact y1, y2, n, w⟩
    · rw [List.getElem?_set_ne (Ne.symm hj)] at z
      obtain ⟨y', e1, e2⟩ := s.env.at_ j u z
      refine ⟨y', e1, e2.mono Le.refl fun b hb => ⟨(e2.has hb).2, fun v hv => ?_⟩⟩
      have hba : b ≠ a := fun w => by
        subst w
        exact hj (s.env.sep j i u _ b z qc hb (by simp))
      rw [upd_ne hba]
      exact hv
  · rw [← ec] at z1 z2
    have go : ∀ {j : Nat} {u : Ent}, ((e ++ tn ps).set i (some (Ent.own a d')))[j]? = some (some u) → b ∈ u.adr → ∃ u' : Ent, (e ++ tn ps)[j]? = some (some u') ∧ b ∈ u'.adr := fun {j u} z m => by
      by_cases hj : j = i
      · subst hj
        have l1 := (List.getElem?_eq_some_iff.mp z).1
        rw [List.length_set] at l1
        rw [List.getElem?_set_self l1] at z
        cases z
        exact ⟨_, qc, m⟩
      · rw [List.getElem?_set_ne (Ne.symm hj)] at z
        exact ⟨u, z, m⟩
    obtain ⟨u', w1, w2⟩ := go z1 m1
    obtain ⟨v', w3, w4⟩ := go z2 m2
    exact s.env.sep j k u' v' b w1 w3 w2 w4
  · have hb : b ≠ a := fun w => nb (w ▸ ain)
    rw [upd_ne hb]
    exact z
end
/-! ### rules of statements -/
def sNext : SvF := fun e d => d.nx e
def sSeq (f g : SvF) : SvF := fun e d => f e { d with nx := fun e1 => g e1 d }
def sCut (f g : SvF) : SvF := fun e d => ∃ J : En → Prop, f e { d with nx := J } ∧ ∀ e1, J e1 → g e1 d
def sSet (i : Nat) (f : EvF) : SvF := fun e d => f e fun r e1 => ∃ e2, asg e1 i r = some e2 ∧ d.nx e2
def sDrop (f : EvF) : SvF := fun e d => f e fun _ e1 => d.nx e1
def sRet (f : EvF) : SvF := fun e d => f e d.rt
def sRetN : SvF := fun e d => d.rt (.im .non) e
def sIf (c : EvT) (f g : SvF) : SvF := fun e d => c e fun b e1 => if b = true then f e1 d else g e1 d
def sBrk : SvF := fun e d => d.bk e
def sCnt : SvF := fun e d => d.ct e
def sNever : SvF := fun _ _ => False
section
variable {X : Cx} {F : Fr} {st : Stmt} {rest : List Stmt} {f g : SvF} {ex : Expr} {fe : EvF} {pos : Pos}
theorem dss_nil : DSs X F [] sNext := ⟨_, pss_nil, fun σ I H e ps d D _ s h k => k.nx σ I H e h s⟩
theorem dss_cons (h1 : DS X F st f) (h2 : DSs X F rest g) : DSs X F (st :: rest) (sSeq f g) := by
  obtain ⟨t1, p1, d1⟩ := h1
  obtain ⟨t2, p2, d2⟩ := h2
  exact ⟨_, pss_cons p1 p2, fun σ I H e ps d D hp s h k => d1 σ I H e ps _ _ hp s h ⟨fun σ' I' H' e' h' s' => d2 σ' I' H' e' ps d D hp s' h' k, k.rt, k.bk, k.ct⟩⟩
theorem dss_cut (h1 : DS X F st f) (h2 : DSs X F rest g) : DSs X F (st :: rest) (sCut f g) := by
  obtain ⟨t1, p1, d1⟩ := h1
  obtain ⟨t2, p2, d2⟩ := h2
  exact ⟨_, pss_cons p1 p2, fun σ I H e ps d D hp s ⟨J, h, hj⟩ k => d1 σ I H e ps { d with nx := J } _ hp s h ⟨fun σ' I' H' e' h' s' => d2 σ' I' H' e' ps d D hp s' (hj e' h') k, k.rt, k.bk, k.ct⟩⟩
theorem dss_one (h1 : DS X F st f) : DSs X F [st] f := by
  obtain ⟨t1, p1, d1⟩ := h1
  exact ⟨_, pss_one p1, d1⟩
theorem ds_pass : DS X F (.Pass pos) sNext := ⟨_, ps_pass, fun σ I H e ps d D _ s h k => k.nx σ I H e h s⟩
theorem ds_break : DS X F (.Break pos) sBrk := ⟨_, ps_break, fun σ I H e ps d D _ s h k => k.bk σ I H e h s⟩
theorem ds_continue : DS X F (.Continue pos) sCnt := ⟨_, ps_continue, fun σ I H e ps d D _ s h k => k.ct σ I H e h s⟩
theorem ds_doc {x j pos'} : DS X F (.Expr (.Constant (.str x) j pos) pos') sNext := ⟨_, ps_doc, fun σ I H e ps d D _ s h k => k.nx σ I H e h s⟩
theorem ds_expr (h1 : DE X F ex fe) (hs : swapsWith ex none pos.line X.env = pure false := by rfl) : DS X F (.Expr ex pos) (sDrop fe) := by
  obtain ⟨t1, p1, d1⟩ := h1
  exact ⟨_, ps_expr p1 hs, fun σ I H e ps d D _ s h k => d1 σ I H e ps _ _ s h fun x r e1 I1 H1 h1 s1 => k.nx σ I1 H1 e1 h1 s1.weak⟩
theorem ds_ret (h1 : DE X F ex fe) : DS X F (.Return (some ex) pos) (sRet fe) := by
  obtain ⟨t1, p1, d1⟩ := h1
  exact ⟨_, ps_ret p1, fun σ I H e ps d D _ s h k => d1 σ I H e ps _ _ s h fun x r e1 I1 H1 h1 s1 => k.rt x r σ I1 H1 e1 h1 s1⟩
theorem ds_retN : DS X F (.Return none pos) sRetN := ⟨_, ps_retN, fun σ I H e ps d D _ s h k => k.rt .non _ σ I H e h (s.pushI .non)⟩
theorem ds_if {c : Expr} {a b : List Stmt} {tc : EvT} (hc : DTe X F c tc) (ha : DSs X F a f) (hb : DSs X F b g) : DS X F (.If c a b pos) (sIf tc f g) := by
  obtain ⟨t0, p0, d0⟩ := hc
  obtain ⟨t1, p1, d1⟩ := ha
  obtain ⟨t2, p2, d2⟩ := hb
  refine ⟨_, ps_if p0 p1 p2, fun σ I H e ps d D hp s h k => d0 σ I H e ps _ _ s h fun b e1 I1 H1 h1 s1 => ?_⟩
  cases b with
  | true => exact d1 σ I1 H1 e1 ps d D hp s1 h1 k
  | false => exact d2 σ I1 H1 e1 ps d D hp s1 h1 k
theorem ds_set {i : Nat} {x : Str} {pos' : Pos} (hN : X.N.Nodup) (hi : X.N[i]? = some x) (hx : Loc X.env.scope x) (h1 : DE X F ex fe) (hs : swapsWith ex (some (.Name x pos')) pos.line X.env = pure false := by rfl)
    (hf : X.fn x = true ∨ X.env.scope.names.lookup x = some .local := by first | exact .inl rfl | exact .inr rfl | assumption) : DS X F (.Assign [.Name x pos'] ex pos) (sSet i fe) := by
  obtain ⟨t1, p1, d1⟩ := h1
  refine ⟨_, ps_set hN hi hx p1 hs hf, fun σ I H e ps d D hp s h k => d1 σ I H e ps _ _ s h fun x r e1 I1 H1 h1 s1 => ?_⟩
  obtain ⟨e2, ha, h2⟩ := h1
  obtain ⟨I2, s2⟩ := s1.asg (hp.no _) ha
  exact k.nx _ I2 H1 e2 h2 s2
end
/-! ### a def's promise from its body -/
inductive BackE : List Ent → En → List Ent → Prop
  | nil {e : En} : BackE [] e []
  | imm {d : D} {o : Option Ent} {es es' : List Ent} {e : En} : BackE es e es' → BackE (.imm d :: es) (o :: e) (.imm d :: es')
  | own {a : Addr} {d d' : D} {es es' : List Ent} {e : En} : BackE es e es' → BackE (.own a d :: es) (some (.own a d') :: e) (.own a d' :: es')
  | hand {p c : Addr} {n n' : Nat} {es es' : List Ent} {e : En} : BackE es e es' → BackE (.hand p c n :: es) (some (.hand p c n') :: e) (.hand p c n' :: es')
theorem BackE.len {es : List Ent} {e : En} {es' : List Ent} (h : BackE es e es') : es'.length = es.length := by
  induction h with
  | nil => rfl
  | imm _ ih => simp [ih]
  | own _ ih => simp [ih]
  | hand _ ih => simp [ih]
theorem BackE.at_ {es : List Ent} {e : En} {es' : List Ent} (h : BackE es e es') : ∀ {i : Nat} {t : Ent}, es'[i]? = some t → (∃ d, t = .imm d ∧ es[i]? = some (.imm d)) ∨
    ∃ t0, es[i]? = some t0 ∧ e[i]? = some (some t) ∧ ∀ (K : PySem.W.Frag) (I H I' H' : Hp) (x y : V), EntR K I H x t0 → EntR K I' H' y t → x = y := by
  induction h with
  | nil => intro i t q; simp at q
  | imm _ ih =>
    intro i t q
    cases i with
    | zero => simp at q; subst q; exact .inl ⟨_, rfl, rfl⟩
    | succ i => simpa using ih (i := i) (t := t) (by simpa using q)
  | own _ ih =>
    intro i t q
    cases i with
    | zero => simp at q; subst q; exact .inr ⟨_, rfl, rfl, fun K I H I' H' x y h1 h2 => h1.1.trans h2.1.symm⟩
    | succ i => simpa using ih (i := i) (t := t) (by simpa using q)
  | hand _ ih =>
    intro i t q
    cases i with
    | zero => simp at q; subst q; exact .inr ⟨_, rfl, rfl, fun K I H I' H' x y h1 h2 => h1.1.trans h2.1.symm⟩
    | succ i => simpa using ih (i := i) (t := t) (by simpa using q)
section
variable {F : Fr} {σ : L2.St} {I H I' H' : Hp} {e e' : En} {ps : Tm} {vs : List V} {es es' : List Ent} {x : V} {t : Ent}
theorem ST.mov {r : Rv} (s : ST F σ I H e (ps ++ [(x, r)])) (hp : Imms ps) (h : mov e r = some (t, e')) : ST F σ I H e' (ps ++ [(x, .ent t)]) := by
  cases r with
  | ent u => cases h; exact s
  | slot i =>
    have al := (s.ali (x, .slot i) (by simp) i rfl).1
    unfold TK.mov at h
    dsimp only at h
    split at h
    · rename_i d q
      cases h
      obtain ⟨y, y1, y2⟩ := s.slot q
      rw [al] at y1
      cases y1
      exact ST.immAt (qs := []) s y2
    · rename_i a d q
      cases h
      have hi := (List.getElem?_eq_some_iff.mp q).1
      obtain ⟨y, y1, y2⟩ := s.slot q
      rw [al] at y1
      cases y1
      have s0 : ST F σ I H e ps := s.weak
      have qc : (e ++ tn ps)[i]? = some (some (.own a d)) := by rw [List.getElem?_append_left hi]; exact q
      have hσ : σ.set i (some x) = σ := by
        refine List.ext_getElem? fun j => ?_
        by_cases hj : j = i
        · subst hj
          rw [List.getElem?_set_self (by rw [← s.len]; exact hi), al]
        · rw [List.getElem?_set_ne (Ne.symm hj)]
      have z := s0.env.setN (i := i) (y := some x)
      rw [List.set_append_left _ _ (by rw [← s.len]; exact hi), List.set_append_left _ _ hi, hσ] at z
      have sub_adr : ∀ b, b ∈ adr (e.set i none ++ tn ps) → b ∈ adr (e ++ tn ps) ∧ b ≠ a := fun b hb => by
        obtain ⟨j, u, w, m⟩ := mem_adr.mp hb
        rw [← List.set_append_left _ _ hi] at w
        by_cases hj : j = i
        · subst hj
          have l1 := (List.getElem?_eq_some_iff.mp w).1
          rw [List.length_set] at l1
          rw [List.getElem?_set_self l1] at w
          cases w
        · rw [List.getElem?_set_ne (Ne.symm hj)] at w
          exact ⟨mem_adr.mpr ⟨j, u, w, m⟩, fun c => hj (s0.env.sep j i u _ b w qc m (by simp [c]))⟩
      have s1 : ST F σ I H (e.set i none) ps := ⟨s.sub, by rw [List.length_set]; exact s.len, z, fun p hp' j w => (hp.no [j] p hp' j w (by simp)).elim, ⟨s0.base.imm, s0.base.keep, fun b hb => s0.base.own b (sub_adr b hb).1, s0.base.new⟩⟩
      refine s1.pushE y2 fun b hb => ?_
      simp at hb
      subst hb
      exact ⟨fun c => (sub_adr b c).2 rfl, s0.base.own b (mem_adr.mpr ⟨i, _, qc, by simp⟩)⟩
    · cases h
/-- the end of a def -/
theorem ST.fin (hF : F.e0 = es.map some) (env : EnvR F.K F.I0 F.H0 (vs.map some) (es.map some)) (s : ST F σ I' H' e [(x, .ent t)]) (b : BackE es e es') :
    EnvR F.K I' H' (vs.map some ++ [some x]) (es'.map some ++ [some t]) ∧ Step (es.map some) F.I0 F.H0 (es'.map some ++ [some t]) I' H' := by
  have lv : (es.map some).length = (vs.map (some : V → Option V)).length := env.len
  rw [List.length_map, List.length_map] at lv
  have lb := b.len
  have tm : EntR F.K I' H' x t := ST.temp (ps := []) (qs := []) s
  have tl := tm_at (ps := []) (qs := []) (x := x) (r := .ent t) s.len
  have at2 : ∀ i u, es'[i]? = some u → (∃ y, vs[i]? = some y ∧ EntR F.K I' H' y u) ∧ ∀ a ∈ u.adr, e[i]? = some (some u) := fun i u q => by
    rcases b.at_ q with ⟨d, rfl, z⟩ | ⟨t0, z1, z2, z3⟩
    · obtain ⟨y, y1, y2⟩ := env.at_ i (.imm d) (by rw [List.getElem?_map, z]; rfl)
      rw [List.getElem?_map] at y1
      cases w : vs[i]? with
      | none => rw [w] at y1; cases y1
      | some y' =>
        rw [w] at y1
        cases y1
        exact ⟨⟨y, w, Rep.mono s.base.imm y2⟩, fun a ha => by simp at ha⟩
    · obtain ⟨y, y1, y2⟩ := env.at_ i t0 (by rw [List.getElem?_map, z1]; rfl)
      rw [List.getElem?_map] at y1
      cases w : vs[i]? with
      | none => rw [w] at y1; cases y1
      | some y' =>
        rw [w] at y1
        cases y1
        obtain ⟨y0, y3, y4⟩ := s.slot z2
        exact ⟨⟨y, by first | exact w | rfl, by rw [z3 _ _ _ _ _ y y0 y2 y4]; exact y4⟩, fun a _ => z2⟩
  have last : ∀ {i u}, (es'.map some ++ [some t])[i]? = some (some u) → (i < es'.length ∧ es'[i]? = some u) ∨ (i = es'.length ∧ u = t) := fun {i u} q => by
    by_cases hi : i < es'.length
    · rw [List.getElem?_append_left (by rw [List.length_map]; exact hi), List.getElem?_map] at q
      cases w : es'[i]? with
      | none => rw [w] at q; cases q
      | some u' => rw [w] at q; cases q; exact .inl ⟨hi, rfl⟩
    · rw [List.getElem?_append_right (by rw [List.length_map]; omega), List.length_map] at q
      have hl := (List.getElem?_eq_some_iff.mp q).1
      have h0 : i - es'.length = 0 := by simp at hl; omega
      rw [h0] at q
      cases q
      exact .inr ⟨by omega, rfl⟩
  have inE : ∀ a, a ∈ adr (es'.map some ++ [some t]) → a ∈ adr (e ++ tn [(x, .ent t)]) := fun a ha => by
    obtain ⟨i, u, q, m⟩ := mem_adr.mp ha
    rcases last q with ⟨_, z⟩ | ⟨_, rfl⟩
    · have w := (at2 i u z).2 a m
      exact mem_adr.mpr ⟨i, u, by rw [List.getElem?_append_left (List.getElem?_eq_some_iff.mp w).1]; exact w, m⟩
    · exact mem_adr.mpr ⟨_, u, tl.2, m⟩
  refine ⟨⟨by simp [lb, lv], fun i u q => ?_, fun i j u v a q1 q2 m1 m2 => ?_⟩, ?_⟩
  · rcases last q with ⟨hi, z⟩ | ⟨rfl, rfl⟩
    · obtain ⟨⟨y, y1, y2⟩, _⟩ := at2 i u z
      refine ⟨y, ?_, y2⟩
      rw [List.getElem?_append_left (by rw [List.length_map]; omega), List.getElem?_map, y1]
      rfl
    · refine ⟨x, ?_, tm⟩
      rw [List.getElem?_append_right (by rw [List.length_map]; omega), List.length_map, show es'.length - vs.length = 0 by omega]
      rfl
  · rcases last q1 with ⟨h1, z1⟩ | ⟨h1, rfl⟩ <;> rcases last q2 with ⟨h2, z2⟩ | ⟨h2, rfl⟩
    · have w1 := (at2 i u z1).2 a m1
      have w2 := (at2 j v z2).2 a m2
      exact s.env.sep i j u v a (by rw [List.getElem?_append_left (List.getElem?_eq_some_iff.mp w1).1]; exact w1) (by rw [List.getElem?_append_left (List.getElem?_eq_some_iff.mp w2).1]; exact w2) m1 m2
    · have w1 := (at2 i u z1).2 a m1
      have l1 := (List.getElem?_eq_some_iff.mp w1).1
      have z := s.env.sep i _ u v a (by rw [List.getElem?_append_left l1]; exact w1) tl.2 m1 m2
      have := s.len
      simp at z
      omega
    · have w2 := (at2 j v z2).2 a m2
      have l2 := (List.getElem?_eq_some_iff.mp w2).1
      have z := s.env.sep j _ v u a (by rw [List.getElem?_append_left l2]; exact w2) tl.2 m2 m1
      have := s.len
      simp at z
      omega
    · omega
  · have bs := s.base
    rw [hF] at bs
    exact ⟨bs.imm, bs.keep, fun a ha => bs.own a (inE a ha), bs.new⟩
end
def frOf (K : PySem.W.Frag) (es : List Ent) (I H : Hp) (E : XK) (PX : Addr → D → List Ent → Prop) : Fr := ⟨K, es.map some, I, H, fun cls d _ H => E cls d H, fun C d e => ∃ es', BackE es e es' ∧ PX C d es'⟩
def startE (n : Nat) (es : List Ent) : En := es.map some ++ List.replicate (n - es.length) none
def endE (es : List Ent) (P : Ent → List Ent → Prop) : Ed := { nx := fun e => ∃ es', BackE es e es' ∧ P (.imm .non) es', rt := fun r e => ∃ t e', mov e r = some (t, e') ∧ ∃ es', BackE es e' es' ∧ P t es' }
theorem EnvR.pads {K : PySem.W.Frag} {I H : Hp} {σ : L2.St} {e : En} (h : EnvR K I H σ e) : ∀ n, EnvR K I H (σ ++ List.replicate n none) (e ++ List.replicate n none)
  | 0 => by simpa using h
  | n + 1 => by
    rw [List.replicate_succ', List.replicate_succ', ← List.append_assoc, ← List.append_assoc]
    exact (EnvR.pads h n).pushN
theorem adr_pads (e : En) (n : Nat) : adr (e ++ List.replicate n none) = adr e := by
  rw [adr_app]
  have : adr (List.replicate n none) = [] := by
    unfold adr
    induction n with
    | zero => rfl
    | succ n ih => rw [List.replicate_succ, List.flatMap_cons, ih]; rfl
  rw [this, List.append_nil]
theorem okD_fn {K : PySem.W.Frag} {P : Program} {w : World} {mg : Str → Option Value} {base : Heap} {x qual : Str} {st : Stmt} {f : Addr} {fd : FuncData} {N ps : List Str} {k : Nat} {con : Con} (G : Fun K x qual st f fd) (S : FnScope N ps (defScope st))
    (len : ∀ es P PX, con es P PX → es.length = ps.length)
    (hbody : ∀ (cdv : Value) (A : Around) (outer : List Env) (s : Shared) (H I : Hp) (E : XK) (es : List Ent) (R : Ent → List Ent → Prop) (PX : Addr → D → List Ent → Prop), Room k (A.deeper (envOfC qual (defScope st) s.heap.objs.size f cdv)) → FrOk (frOf K es I H E PX) → con es R PX →
      ∃ g, DSs (cxOf (L2.CX P w) P w K mg base N qual (defScope st) f cdv A outer s H E) (frOf K es I H E PX) (defBody st) g ∧ g (startE N.length es) (endE es R)) : FnOk P w K mg base (L2.CX P w) (k + 1) f fd ps (spD K con) := by
  refine G.okX S (fun vs H Q E h => ?_) fun cdv A outer s H vs Q E hr h => ?_
  · obtain ⟨I, es, R, PX, _, env, hc, _⟩ := h
    have l := env.len
    rw [List.length_map, List.length_map] at l
    rw [← l]
    exact len _ _ _ hc
  · obtain ⟨I, es, R, PX, sub, env, hc, kq, ke⟩ := h
    have l := env.len
    rw [List.length_map, List.length_map] at l
    have fo : FrOk (frOf K es I H E PX) := fun σ I' H' e ps C d x dd s' hp rx hx => by
      obtain ⟨es', b, hp⟩ := hp
      have s1 : ST (frOf K es I H E PX) σ I' H' e ([] ++ [(V.non, .im .non)]) := (show ST (frOf K es I H E PX) σ I' H' e [] from ST.weak (ps := []) (qs := ps) s').pushI .non
      obtain ⟨env', st'⟩ := ST.fin (es := es) (vs := vs) rfl env s1 b
      have lx : (es'.map some).length = (vs.map (some : V → Option V)).length := by rw [List.length_map, List.length_map, b.len, l]
      exact ke C d es' x dd I' H' hp s'.sub (EnvR.pre lx env') ⟨st'.imm, st'.keep, fun a ha => st'.own a (by rw [adr_app]; exact List.mem_append_left _ ha), st'.new⟩ rx hx
    obtain ⟨g, ⟨t, pt, dt⟩, hg⟩ := hbody cdv A outer s H I E es R PX hr fo hc
    refine ⟨t, pt, dt (L2.start N vs) I H (startE N.length es) [] (endE es R) _ (fun p hp => by simp at hp) ?_ hg ?_⟩
    · refine ⟨sub, by simp [startE, L2.start, l], ?_, fun p hp => by simp at hp, ?_⟩
      · show EnvR K I H (L2.start N vs ++ []) (startE N.length es ++ [])
        rw [List.append_nil, List.append_nil]
        unfold L2.start startE
        rw [l]
        exact env.pads _
      · show Step (es.map some) I H (startE N.length es ++ []) I H
        rw [List.append_nil]
        unfold startE
        refine ⟨Le.refl, fun _ _ q _ => q, fun a ha => .inl ?_, fun _ _ q => .inl q⟩
        rw [adr_pads] at ha
        exact ha
    · refine ⟨fun σ' I' H' e' hn s' => ?_, fun x r σ' I' H' e' hn s' => ?_, fun _ _ _ _ z => z.elim, fun _ _ _ _ z => z.elim⟩
      · obtain ⟨es', b, hp⟩ := hn
        have s1 : ST (frOf K es I H E PX) σ' I' H' e' ([] ++ [(V.non, .im .non)]) := ST.pushI (ps := []) s' .non
        obtain ⟨env', st'⟩ := ST.fin (es := es) (vs := vs) rfl env s1 b
        exact kq _ es' _ I' H' hp s'.sub env' st'
      · obtain ⟨u, e2, hm, es', b, hp⟩ := hn
        have s1 := ST.mov (ps := []) s' (fun p hp => by simp at hp) hm
        obtain ⟨env', st'⟩ := ST.fin (es := es) (vs := vs) rfl env s1 b
        exact kq _ es' _ I' H' hp s'.sub env' st'
/-! ### targets -/
abbrev TgF := D → En → (En → Prop) → Prop
abbrev TgsF := List D → En → (En → Prop) → Prop
/-- slots beside sl are as they were -/
def SameOut (sl : List Nat) (σ σ' : L2.St) : Prop := σ'.length = σ.length ∧ ∀ j, j ∉ sl → σ'[j]? = σ[j]?
def DTgt (F : Fr) (t : TG) (f : TgF) (sl : List Nat) : Prop := ∀ (v : V) (c : D) (σ : L2.St) (I H : Hp) (e : En) (ps : Tm) (P : En → Prop) (Q : L2.St → Hp → Prop), NoSl sl ps → ST F σ I H e ps → Rep F.K I v c → f c e P →
  (∀ σ' e', P e' → ST F σ' I H e' ps → SameOut sl σ σ' → Q σ' H) → t v σ H Q
def DTgts (F : Fr) (t : TGs) (f : TgsF) (sl : List Nat) : Prop := ∀ (vs : List V) (cs : List D) (σ : L2.St) (I H : Hp) (e : En) (ps : Tm) (P : En → Prop) (Q : L2.St → Hp → Prop), NoSl sl ps → ST F σ I H e ps → Reps F.K I vs cs → f cs e P →
  (∀ σ' e', P e' → ST F σ' I H e' ps → SameOut sl σ σ' → Q σ' H) → t vs σ H Q
structure DGt (X : Cx) (F : Fr) (tg : Expr) (f : TgF) (sl : List Nat) : Prop where
  ex : ∃ t, PG X tg t ∧ DTgt F t f sl
structure DGts (X : Cx) (F : Fr) (tgs : List Expr) (f : TgsF) (sl : List Nat) : Prop where
  ex : ∃ t, PGs X tgs t ∧ DTgts F t f sl
def gN (i : Nat) : TgF := fun c e P => ∃ e2, asg e i (.im c) = some e2 ∧ P e2
def gNl : TgsF := fun cs e P => cs = [] ∧ P e
def gCn (f : TgF) (g : TgsF) : TgsF := fun cs e P => ∃ c r, cs = c :: r ∧ f c e fun e1 => g r e1 P
def gT (n : Nat) (g : TgsF) : TgF := fun c e P => ∃ cs, (c = .tup cs ∨ c = .lst cs) ∧ cs.length = n ∧ g cs e P
section
variable {X : Cx} {F : Fr} {pos : Pos} {sl sl' : List Nat}
theorem dg_name {i : Nat} {x : Str} (hN : X.N.Nodup) (hi : X.N[i]? = some x) (hx : Loc X.env.scope x) (hf : X.fn x = true ∨ X.env.scope.names.lookup x = some .local := by first | exact .inl rfl | exact .inr rfl | assumption) : DGt X F (.Name x pos) (gN i) [i] :=
  ⟨_, pg_name hN hi hx hf, fun v c σ I H e ps P Q hp s r h k => by
    obtain ⟨e2, ha, h2⟩ := h
    have s1 : ST F σ I H e (ps ++ [(v, .im c)]) := s.pushI r
    unfold TK.asg at ha
    split at ha
    · cases ha
    · rename_i o q
      cases ha
      exact k _ _ h2 (s1.asgE hp (List.getElem?_eq_some_iff.mp q).1) ⟨List.length_set .., fun j hj => List.getElem?_set_ne fun z => hj (by simp [z])⟩⟩
theorem dgs_nil : DGts X F [] gNl [] := ⟨_, pgs_nil, fun vs cs σ I H e ps P Q hp s r h k => by
  obtain ⟨rfl, h⟩ := h
  cases r
  exact ⟨rfl, k σ e h s ⟨rfl, fun _ _ => rfl⟩⟩⟩
theorem dgs_cons {t : Expr} {ts : List Expr} {f : TgF} {g : TgsF} (h1 : DGt X F t f sl) (h2 : DGts X F ts g sl') (hs : (assignEach (t :: ts) X.env).map (·.2) = assign t X.env :: (assignEach ts X.env).map (·.2) := by rfl) : DGts X F (t :: ts) (gCn f g) (sl ++ sl') := by
  obtain ⟨t1, p1, d1⟩ := h1
  obtain ⟨t2, p2, d2⟩ := h2
  refine ⟨_, pgs_cons p1 p2 hs, fun vs cs σ I H e ps P Q hp s r h k => ?_⟩
  obtain ⟨c, cs', rfl, h⟩ := h
  cases r with
  | cons r1 r2 =>
    refine ⟨_, _, rfl, d1 _ c σ I H e ps _ _ (fun p h j q m => hp p h j q (List.mem_append_left _ m)) s r1 h fun σ1 e1 h1 s1 o1 => d2 _ cs' σ1 I H e1 ps P Q (fun p h j q m => hp p h j q (List.mem_append_right _ m)) s1 r2 h1 fun σ2 e2 h2 s2 o2 => ?_⟩
    exact k σ2 e2 h2 s2 ⟨o2.1.trans o1.1, fun j hj => (o2.2 j fun m => hj (List.mem_append_right _ m)).trans (o1.2 j fun m => hj (List.mem_append_left _ m))⟩
theorem PG.or {tg : Expr} {t u : TG} (h : PG X tg t) (h' : PG X tg u) : PG X tg (fun v σ H Q => t v σ H Q ∨ u v σ H Q) := ⟨fun pins s σ H v u' Q I r q => by
  rcases q with q | q
  · exact h.run pins s σ H v u' Q I r q
  · exact h'.run pins s σ H v u' Q I r q⟩
theorem dg_tup {es : List Expr} {k n : Nat} {g : TgsF} (hc : X.calm = true) (h : DGts X F es g sl) (hK : F.K = X.K := by first | rfl | assumption) (hn : (assignEach es X.env).length = n := by rfl) (hst : (assignEach es X.env).findIdx? (·.1) = none := by rfl) : DGt X F (.Tuple es k pos) (gT n g) sl := by
  obtain ⟨t, p, d⟩ := h
  refine ⟨_, PG.or (pg_tup hc p hn hst) (pg_unl hc p hn hst), fun v c σ I H e ps P Q hp s r h k => ?_⟩
  obtain ⟨cs, hc, hl, h⟩ := h
  rcases hc with rfl | rfl
  · cases r with
    | @tup a xs _ hx rr =>
      exact .inl ⟨a, xs, rfl, SqT.of (s.sub _ _ hx), by rw [rr.len]; exact hl, d xs cs σ I H e ps P Q hp s rr h k⟩
  · cases r with
    | @lst a xs _ hx rr => exact .inr ⟨a, xs, rfl, SqL.of (s.sub _ _ hx), by rw [rr.len]; exact hl, d xs cs σ I H e ps P Q hp s rr h k⟩
end
def sAsg (f : EvF) (g : TgF) : SvF := fun e d => f e fun r e1 => ∃ c e2, frz e1 r = some (c, e2) ∧ g c e2 d.nx
section
variable {X : Cx} {F : Fr} {pos : Pos} {ex tg : Expr} {fe : EvF} {g : TgF} {sl : List Nat}
theorem ds_asg (h1 : DE X F ex fe) (h2 : DGt X F tg g sl) (hs : swapsWithSole [tg] ex pos.line X.env = pure false := by rfl) (hw : swappedStores [tg] ex X.env = pure none := by rfl)
    (h3 : (assignEach [tg] X.env).map (·.2) = [assign tg X.env] := by rfl) : DS X F (.Assign [tg] ex pos) (sAsg fe g) := by
  obtain ⟨t1, p1, d1⟩ := h1
  obtain ⟨t2, p2, d2⟩ := h2
  refine ⟨_, ps_asg p1 p2 hs hw h3, fun σ I H e ps d D hp s h k => d1 σ I H e ps _ _ s h fun x r e1 I1 H1 h1 s1 => ?_⟩
  obtain ⟨c, e2, hf, h2⟩ := h1
  obtain ⟨I2, _, s2⟩ := s1.frz hf
  exact d2 x c σ I2 H1 e2 ps d.nx _ (hp.no _) s2.weak (ST.temp (qs := []) (t := .imm c) s2) h2 fun σ' e' h' s' _ => k.nx σ' I2 H1 e' h' s'
end
/-! ### what is walked -/
def Holds (K : PySem.W.Frag) (I : Hp) (qs : Tm) : Prop := ∀ p ∈ qs, ∀ c, p.2 = Rv.im c → Rep K I p.1 c
theorem ST.holds {F : Fr} {σ : L2.St} {I H : Hp} {e : En} {ps qs : Tm} (s : ST F σ I H e (ps ++ qs)) : Holds F.K I qs := fun p hp c hc => by
  obtain ⟨l1, l2, rfl⟩ := List.append_of_mem hp
  obtain ⟨x, r⟩ := p
  have hc' : r = Rv.im c := hc
  subst hc'
  rw [← List.append_assoc] at s
  exact ST.temp (t := .imm c) s
/-- J walks over the things ds, as long as qs are held -/
structure ItD (K : PySem.W.Frag) (J : It) (qs : Tm) (ds : List D) : Prop where
  go : ∀ (I H : Hp) (i : Nat), Sub I H → Holds K I qs → i < ds.length → J.go i H
  stop : ∀ (I H : Hp), Sub I H → Holds K I qs → J.stop ds.length H
  yld : ∀ (I H : Hp) (i : Nat) (x : V) (H' : Hp), Sub I H → Holds K I qs → i < ds.length → J.yld i H x H' → ∃ I' d, Grow I H I' H' ∧ ds[i]? = some d ∧ Rep K I' x d
abbrev EvI := En → (List D → En → Prop) → Prop
def DTI (F : Fr) (wi : TI) (f : EvI) : Prop := ∀ (σ : L2.St) (I H : Hp) (e : En) (ps : Tm) (P : List D → En → Prop) (R : It → Hp → Prop), ST F σ I H e ps → f e P →
  (∀ J ds qs e' I' H', P ds e' → Imms qs → ST F σ I' H' e' (ps ++ qs) → ItD F.K J qs ds → R J H') → wi σ H R
structure DI (X : Cx) (F : Fr) (tg it : Expr) (f : EvI) : Prop where
  ex : ∃ wi, PI X tg it wi ∧ DTI F wi f
/-- a list, a tuple, a text -/
def iAny (K : PySem.W.Frag) (tl : TE) : TI := fun σ H R => tl σ H fun x H1 => (∃ a, x = .ref a ∧ (∃ xs, SqL K H1 a xs) ∧ R (Itl K a) H1) ∨ (∃ a, x = .ref a ∧ (∃ xs, SqT K H1 a xs) ∧ R (Itt K a) H1) ∨ ∃ z, x = .str z ∧ R (Its z) H1
theorem pi_any {X : Cx} {tg l : Expr} {tl : TE} (hl : PE X l tl) : PI X tg l (iAny X.K tl) := by
  constructor
  intro pins s σ H R I h
  apply thn (hl.run pins s σ H _ I h)
  rintro v s1 ⟨x, H1, I1, r1, ⟨a, rfl, ⟨xs, hq⟩, q⟩ | ⟨a, rfl, ⟨xs, hq⟩, q⟩ | ⟨z, rfl, q⟩⟩
  · cases r1
    obtain ⟨its, _, pl, _⟩ := I1.list hq
    apply wpAny_pyIter_list pl.isList
    exact pi_one (tk := s1.toks) I1 _ (turn_list a _) ⟨_, Heap.get?_push_size _ rfl, rfl, rfl⟩ q
  · cases r1
    obtain ⟨its, _, pl, _⟩ := I1.tuple hq
    apply wpAny_pyIter_tuple (items := its.toArray) pl
    exact pi_one (tk := s1.toks) I1 _ (turn_tuple a _) ⟨_, Heap.get?_push_size _ rfl, rfl, rfl⟩ q
  · obtain ⟨t, rfl⟩ := r1
    cases ha : z.cps.all (· < 128) with
    | false =>
      apply wpAny_pyIter_wide ha
      exact pi_one (tk := s1.toks) I1 _ (turn_str _ z t _ (.inr rfl)) ⟨_, Heap.get?_push_size _ rfl, rfl, rfl⟩ q
    | true =>
      apply wpAny_pyIter_ascii ha
      exact pi_one (tk := s1.toks) I1 _ (turn_str _ z t _ (.inl rfl)) ⟨_, Heap.get?_push_size _ rfl, rfl, rfl⟩ q
def chars (z : Str) : List D := z.cps.toList.map fun c => .str ⟨#[c]⟩
def items : D → Option (List D)
  | .lst ds => some ds
  | .fls ds => some ds
  | .tup ds => some ds
  | .ftp ds => some ds
  | .str z => some (chars z)
  | _ => none
def wSeq (f : EvF) : EvI := fun e P => f e fun r e1 => ∃ c e2 ds, frz e1 r = some (c, e2) ∧ items c = some ds ∧ P ds e2
def rngD (lo c : Int) (n : Nat) : List D := (List.range n).map fun i : Nat => .int (lo + (i : Int) * c)
def wRng1 (f : EvA) : EvI := fun e P => f e fun rs e1 => ∃ j, vals e1 rs = some [.int j] ∧ -(2 ^ 62) ≤ j ∧ j < 2 ^ 62 ∧ P (rngD 0 1 j.toNat) e1
def wRng2 (f : EvA) : EvI := fun e P => f e fun rs e1 => ∃ i j, vals e1 rs = some [.int i, .int j] ∧ (-(2 ^ 62) ≤ i ∧ i < 2 ^ 62 ∧ -(2 ^ 62) ≤ j ∧ j < 2 ^ 62) ∧ P (rngD i 1 (j - i).toNat) e1
def wRng3 (f : EvA) : EvI := fun e P => f e fun rs e1 => ∃ i j c n, vals e1 rs = some [.int i, .int j, .int c] ∧ RgC i j c n ∧ P (rngD i c n) e1
def enumD (ds : List D) : List D := ds.mapIdx fun i d => .tup [.int i, d]
def wEnum (f : EvF) : EvI := fun e P => f e fun r e1 => ∃ c e2 ds, frz e1 r = some (c, e2) ∧ c = .lst ds ∧ P (enumD ds) e2
section
variable {K : PySem.W.Frag}
theorem itd_list {a : Addr} {x : V} {c : D} {xs : List V} {ds : List D} (hx : x = .ref a) (h : ∀ I H, Sub I H → Rep K I x c → ∃ xs, SqL K H a xs ∧ Reps K I xs ds) : ItD K (Itl K a) [(x, .im c)] ds := by
  have hd : ∀ I H, Sub I H → Holds K I [(x, .im c)] → ∃ xs, SqL K H a xs ∧ Reps K I xs ds := fun I H s q => h I H s (q (x, .im c) (by simp) c rfl)
  refine ⟨fun I H i s q hi => ?_, fun I H s q => ?_, fun I H i y H' s q hi hy => ?_⟩
  · obtain ⟨xs, q1, r⟩ := hd I H s q
    exact ⟨xs, xs[i]'(by rw [r.len]; exact hi), q1, List.getElem?_eq_getElem _⟩
  · obtain ⟨xs, q1, r⟩ := hd I H s q
    exact ⟨xs, q1, Nat.le_of_eq r.len⟩
  · obtain ⟨xs, q1, r⟩ := hd I H s q
    obtain ⟨rfl, h2⟩ := hy
    obtain ⟨d, e1, e2⟩ := r.get' (h2 xs q1)
    exact ⟨I, d, Grow.refl s, e1, e2⟩
theorem itd_tup {a : Addr} {x : V} {c : D} {ds : List D} (h : ∀ I H, Sub I H → Rep K I x c → ∃ xs, SqT K H a xs ∧ Reps K I xs ds) : ItD K (Itt K a) [(x, .im c)] ds := by
  have hd : ∀ I H, Sub I H → Holds K I [(x, .im c)] → ∃ xs, SqT K H a xs ∧ Reps K I xs ds := fun I H s q => h I H s (q (x, .im c) (by simp) c rfl)
  refine ⟨fun I H i s q hi => ?_, fun I H s q => ?_, fun I H i y H' s q hi hy => ?_⟩
  · obtain ⟨xs, q1, r⟩ := hd I H s q
    exact ⟨xs, xs[i]'(by rw [r.len]; exact hi), q1, List.getElem?_eq_getElem _⟩
  · obtain ⟨xs, q1, r⟩ := hd I H s q
    exact ⟨xs, q1, Nat.le_of_eq r.len⟩
  · obtain ⟨xs, q1, r⟩ := hd I H s q
    obtain ⟨rfl, h2⟩ := hy
    obtain ⟨d, e1, e2⟩ := r.get' (h2 xs q1)
    exact ⟨I, d, Grow.refl s, e1, e2⟩
theorem itd_str {z : Str} {qs : Tm} : ItD K (Its z) qs (chars z) := by
  have hl : (chars z).length = z.cps.size := by unfold chars; simp
  refine ⟨fun I H i s q hi => by rw [hl] at hi; exact hi, fun I H s q => by rw [hl]; exact Nat.le_refl _, fun I H i y H' s q hi hy => ?_⟩
  obtain ⟨rfl, c, h1, rfl⟩ := hy
  refine ⟨I, .str ⟨#[c]⟩, Grow.refl s, ?_, .str _⟩
  unfold chars
  rw [List.getElem?_map, Array.getElem?_toList, h1]
  rfl
theorem rngD_len {lo c : Int} {n : Nat} : (rngD lo c n).length = n := by unfold rngD; simp
theorem rngD_at {lo c : Int} {n i : Nat} (h : i < n) : (rngD lo c n)[i]? = some (.int (lo + (i : Int) * c)) := by unfold rngD; simp [h]
theorem itd_rng {lo : Int} {n : Nat} {qs : Tm} : ItD K (Itr lo n) qs (rngD lo 1 n) := by
  refine ⟨fun I H i s q hi => by rw [rngD_len] at hi; exact hi, fun I H s q => by rw [rngD_len]; exact Nat.le_refl _, fun I H i y H' s q hi hy => ?_⟩
  obtain ⟨rfl, rfl⟩ := hy
  rw [rngD_len] at hi
  exact ⟨I, _, Grow.refl s, rngD_at hi, by rw [Int.mul_one]; exact .int _⟩
theorem itd_rngC {lo c : Int} {n : Nat} {qs : Tm} : ItD K (Itc lo c n) qs (rngD lo c n) := by
  refine ⟨fun I H i s q hi => by rw [rngD_len] at hi; exact hi, fun I H s q => by rw [rngD_len]; exact Nat.le_refl _, fun I H i y H' s q hi hy => ?_⟩
  obtain ⟨rfl, rfl⟩ := hy
  rw [rngD_len] at hi
  exact ⟨I, _, Grow.refl s, rngD_at hi, .int _⟩
end
theorem imms1 {x : V} {c : D} : Imms [(x, .im c)] := fun p hp => by
  rw [List.mem_singleton] at hp
  subst hp
  exact ⟨c, rfl⟩
theorem imms0 : Imms [] := fun p hp => by simp at hp
section
variable {X : Cx} {F : Fr} {tg a b c : Expr} {f : EvF} {g : EvA} {p pos : Pos}
theorem di_seq (h : DE X F a f) (hK : F.K = X.K := by first | rfl | assumption) : DI X F tg a (wSeq f) := by
  obtain ⟨t, p, d⟩ := h
  refine ⟨_, pi_any p, fun σ I H e ps P R s h k => ?_⟩
  refine d σ I H e ps _ _ s h fun x r e1 I1 H1 h1 s1 => ?_
  obtain ⟨c, e2, ds, hf, hi, h2⟩ := h1
  obtain ⟨I2, _, s2⟩ := s1.frz hf
  have rx : Rep F.K I2 x c := ST.temp (qs := []) (t := .imm c) s2
  cases c with
  | lst ds' =>
    cases hi
    cases rx with
    | @lst a' xs _ hx rr => exact .inl ⟨a', rfl, ⟨xs, SqL.of (s2.sub _ _ hx)⟩, by
        rw [← hK]
        refine k _ ds _ e2 I2 H1 h2 imms1 s2 (itd_list (xs := xs) rfl fun I' H' s' r' => ?_)
        cases r' with
        | lst hx' rr' => exact ⟨_, SqL.of (s' _ _ hx'), rr'⟩⟩
  | fls ds' =>
    cases hi
    cases rx with
    | @fls a' xs _ hx rr => exact .inl ⟨a', rfl, ⟨xs, by rw [← hK]; exact Le.sqL s2.sub hx⟩, by
        rw [← hK]
        refine k _ ds _ e2 I2 H1 h2 imms1 s2 (itd_list (xs := xs) rfl fun I' H' s' r' => ?_)
        cases r' with
        | fls hx' rr' => exact ⟨_, Le.sqL s' hx', rr'⟩⟩
  | tup ds' =>
    cases hi
    cases rx with
    | @tup a' xs _ hx rr => exact .inr (.inl ⟨a', rfl, ⟨xs, SqT.of (s2.sub _ _ hx)⟩, by
        rw [← hK]
        refine k _ ds _ e2 I2 H1 h2 imms1 s2 (itd_tup fun I' H' s' r' => ?_)
        cases r' with
        | tup hx' rr' => exact ⟨_, SqT.of (s' _ _ hx'), rr'⟩⟩)
  | ftp ds' =>
    cases hi
    cases rx with
    | @ftp a' xs _ hx rr => exact .inr (.inl ⟨a', rfl, ⟨xs, by rw [← hK]; exact Le.sqT s2.sub hx⟩, by
        rw [← hK]
        refine k _ ds _ e2 I2 H1 h2 imms1 s2 (itd_tup fun I' H' s' r' => ?_)
        cases r' with
        | ftp hx' rr' => exact ⟨_, Le.sqT s' hx', rr'⟩⟩)
  | str z =>
    cases hi
    cases rx
    exact .inr (.inr ⟨z, rfl, k _ _ _ e2 I2 H1 h2 imms1 s2 itd_str⟩)
  | _ => cases hi
theorem VwRs.ints1 {K : PySem.W.Frag} {I H : Hp} {xs : List V} {j : Int} (h : VwRs K I H xs [.int j]) : xs = [.int j] := by
  cases h with
  | cons h1 h2 => cases h2; rw [h1.int]
theorem VwRs.ints2 {K : PySem.W.Frag} {I H : Hp} {xs : List V} {i j : Int} (h : VwRs K I H xs [.int i, .int j]) : xs = [.int i, .int j] := by
  cases h with
  | cons h1 h2 => rw [h1.int, h2.ints1]
theorem VwRs.ints3 {K : PySem.W.Frag} {I H : Hp} {xs : List V} {i j l : Int} (h : VwRs K I H xs [.int i, .int j, .int l]) : xs = [.int i, .int j, .int l] := by
  cases h with
  | cons h1 h2 => rw [h1.int, h2.ints2]
theorem di_rng1 (hg : Gl X "range") (hm : X.mg "range" = none) (h : DA X F [a] g) (hs : starEach [a] X.env = [(false, eval a X.env)] := by rfl) : DI X F tg (.Call (.Name "range" p) [a] [] pos) (wRng1 g) := by
  obtain ⟨t, q, d⟩ := h
  refine ⟨_, pi_range1 hg hm q hs, fun σ I H e ps P R s h k => ?_⟩
  refine d σ I H e ps _ _ s h fun xs rs e1 I1 H1 h1 hl s1 => ?_
  obtain ⟨j, v, b1, b2, h2⟩ := h1
  exact ⟨j, (s1.vws hl v).ints1, b1, b2, k _ _ [] e1 I1 H1 h2 imms0 (by rw [List.append_nil]; exact s1.weak) itd_rng⟩
theorem di_rng2 (hg : Gl X "range") (hm : X.mg "range" = none) (h : DA X F [a, b] g) (hs : starEach [a, b] X.env = [(false, eval a X.env), (false, eval b X.env)] := by rfl) (hs2 : starEach [b] X.env = [(false, eval b X.env)] := by rfl) :
    DI X F tg (.Call (.Name "range" p) [a, b] [] pos) (wRng2 g) := by
  obtain ⟨t, q, d⟩ := h
  refine ⟨_, pi_range2 hg hm q hs hs2, fun σ I H e ps P R s h k => ?_⟩
  refine d σ I H e ps _ _ s h fun xs rs e1 I1 H1 h1 hl s1 => ?_
  obtain ⟨i, j, v, b1, h2⟩ := h1
  exact ⟨i, j, (s1.vws hl v).ints2, b1, k _ _ [] e1 I1 H1 h2 imms0 (by rw [List.append_nil]; exact s1.weak) itd_rng⟩
theorem di_rng3 (hg : Gl X "range") (hm : X.mg "range" = none) (h : DA X F [a, b, c] g) (hs : starEach [a, b, c] X.env = (false, eval a X.env) :: starEach [b, c] X.env := by rfl) (hpl : (backTo pos (starEach [b, c] X.env)).any (·.1) = false := by rfl) :
    DI X F tg (.Call (.Name "range" p) [a, b, c] [] pos) (wRng3 g) := by
  obtain ⟨t, q, d⟩ := h
  refine ⟨_, pi_range3 hg hm q hs hpl, fun σ I H e ps P R s h k => ?_⟩
  refine d σ I H e ps _ _ s h fun xs rs e1 I1 H1 h1 hl s1 => ?_
  obtain ⟨i, j, l, n, v, b1, h2⟩ := h1
  exact ⟨i, j, l, n, (s1.vws hl v).ints3, b1, k _ _ [] e1 I1 H1 h2 imms0 (by rw [List.append_nil]; exact s1.weak) itd_rngC⟩
/-- enumerate of a list -/
theorem di_enum {elts : List Expr} {kk : Nat} {tpos : Pos} (hg : Gl X "enumerate") (hm : X.mg "enumerate" = none) (h : DE X F a f) (hK : F.K = X.K := by first | rfl | assumption) (hs : starEach [a] X.env = [(false, eval a X.env)] := by rfl) :
    DI X F (.Tuple elts kk tpos) (.Call (.Name "enumerate" p) [a] [] pos) (wEnum f) := by
  obtain ⟨t, q, d⟩ := h
  refine ⟨_, pi_enum hg hm (pa_cons q pa_nil hs) hs, fun σ I H e ps P R s h k => ?_⟩
  refine d σ I H e ps _ _ s h fun x r e1 I1 H1 h1 s1 => ?_
  obtain ⟨c, e2, ds, hf, rfl, h2⟩ := h1
  obtain ⟨I2, _, s2⟩ := s1.frz hf
  have rx : Rep F.K I2 x (.lst ds) := ST.temp (qs := []) (t := .imm (.lst ds)) s2
  cases rx with
  | @lst a' xs _ hx rr =>
    refine ⟨a', xs, rfl, SqL.of (s2.sub _ _ hx), ?_⟩
    rw [← hK]
    have hd : ∀ I H, Sub I H → Holds F.K I [(V.ref a', .im (.lst ds))] → ∃ xs, SqL F.K H a' xs ∧ Reps F.K I xs ds := fun I H s q => by
      cases q (V.ref a', .im (.lst ds)) (by simp) _ rfl with
      | lst hx' rr' => exact ⟨_, SqL.of (s _ _ hx'), rr'⟩
    have hlen : (enumD ds).length = ds.length := by unfold enumD; simp
    refine k _ _ _ e2 I2 H1 h2 imms1 s2 ⟨fun I H i s q hi => ?_, fun I H s q => ?_, fun I H i y H' s q hi hy => ?_⟩
    · obtain ⟨xs, q1, r⟩ := hd I H s q
      exact ⟨xs, xs[i]'(by rw [r.len, ← hlen]; exact hi), q1, List.getElem?_eq_getElem _⟩
    · obtain ⟨xs, q1, r⟩ := hd I H s q
      exact ⟨xs, q1, by rw [hlen, r.len]; exact Nat.le_refl _⟩
    · obtain ⟨xs, q1, r⟩ := hd I H s q
      obtain ⟨T, z, rfl, hT, rfl, h3⟩ := hy
      obtain ⟨d, e1, e2⟩ := r.get' (h3 xs q1)
      have g := Grow.allocI (o := .tup [.int (i : Nat), z]) s hT
      refine ⟨_, .tup [.int (i : Nat), d], g, ?_, .tup upd_same (.cons (.int _) (.cons (e2.mono g.le) .nil))⟩
      unfold enumD
      rw [List.getElem?_mapIdx, e1]
      rfl
end
/-! ### for -/
def sFor (w : EvI) (g : TgF) (body : SvF) : SvF := fun e d => w e fun ds e1 => ∃ W : Nat → En → Prop, W 0 e1 ∧ (∀ i c e2, ds[i]? = some c → W i e2 → g c e2 fun e3 => body e3 { d with nx := W (i + 1), ct := W (i + 1), bk := d.nx }) ∧ ∀ e2, W ds.length e2 → d.nx e2
def sWhile (c : EvT) (body : SvF) : SvF := fun e d => ∃ W : Nat → En → Prop, (∃ m, W m e) ∧ ∀ m e1, W m e1 → c e1 fun b e2 => if b = true then body e2 { d with nx := fun e3 => ∃ m', m' < m ∧ W m' e3, ct := fun e3 => ∃ m', m' < m ∧ W m' e3, bk := d.nx } else d.nx e2
theorem imms_app {ps qs : Tm} (h : Imms ps) (h' : Imms qs) : Imms (ps ++ qs) := fun p hp => by
  rcases List.mem_append.mp hp with m | m
  · exact h p m
  · exact h' p m
theorem ST.drop {F : Fr} {σ : L2.St} {I H : Hp} {e : En} {ps qs : Tm} {x : V} {r : Rv} (s : ST F σ I H e (ps ++ qs ++ [(x, r)])) : ST F σ I H e (ps ++ [(x, r)]) := by
  have s0 : ST F σ I H e ps := s.weak.weak
  cases r with
  | slot i =>
    obtain ⟨h1, t, h2⟩ := s.ali (x, .slot i) (by simp) i rfl
    exact s0.pushS h1 h2
  | ent t =>
    refine s0.pushE (ST.temp (qs := []) s) fun a ha => ⟨fun z => ?_, ?_⟩
    · obtain ⟨j, u, q, m⟩ := mem_adr.mp z
      have lj := (List.getElem?_eq_some_iff.mp q).1
      have lst := tm_at (ps := ps ++ qs) (qs := []) (x := x) (r := .ent t) s.len
      have z := s.env.sep j _ u t a (by rw [tn_app, tn_app, ← List.append_assoc, ← List.append_assoc, List.append_assoc, List.getElem?_append_left lj]; exact q) lst.2 m ha
      rw [List.length_append, s.len] at lj
      unfold tn at lj
      rw [List.length_map] at lj
      rw [List.length_append] at z
      omega
    · have lst := tm_at (ps := ps ++ qs) (qs := []) (x := x) (r := .ent t) s.len
      exact s.base.own a (mem_adr.mpr ⟨_, t, lst.2, ha⟩)
theorem EdR.more {F : Fr} {ps qs : Tm} {d : Ed} {D : Ends} (h : EdR F ps d D) : EdR F (ps ++ qs) d D :=
  ⟨fun σ' I' H' e' h1 s => h.nx σ' I' H' e' h1 s.weak, fun x r σ' I' H' e' h1 s => h.rt x r σ' I' H' e' h1 (ST.drop s), fun σ' I' H' e' h1 s => h.bk σ' I' H' e' h1 s.weak, fun σ' I' H' e' h1 s => h.ct σ' I' H' e' h1 s.weak⟩
section
variable {X : Cx} {F : Fr} {tg it c : Expr} {w : EvI} {g : TgF} {f : SvF} {ft : EvT} {body : List Stmt} {pos : Pos} {sl : List Nat}
theorem ds_for (hp : PassesOwn (model X.prog X.w) X.A X.env X.xe) (hc : X.calm = true) (hi : DI X F tg it w) (hg : DGt X F tg g sl) (hb : DSs X F body f) (hs : ∀ x, foldedSetIterable it X.env x = pure x := by intro _; rfl) : DS X F (.For tg it body [] pos) (sFor w g f) := by
  obtain ⟨wi, pi, di⟩ := hi
  obtain ⟨tg', pg, dg⟩ := hg
  obtain ⟨tb, pb, db⟩ := hb
  refine ⟨_, ps_for hp hc pi pg pb hs, fun σ I H e ps d D hps s h k => ?_⟩
  refine di σ I H e ps _ _ s h fun J ds qs e1 I1 H1 h1 hqs s1 itd => ?_
  obtain ⟨W, w0, turn, fin⟩ := h1
  refine ⟨fun i m σ H => m = ds.length - i ∧ i ≤ ds.length ∧ ∃ e I, W i e ∧ ST F σ I H e (ps ++ qs), ⟨ds.length, by simp, Nat.zero_le _, e1, I1, w0, s1⟩, ?_⟩
  rintro i m σ2 H2 ⟨rfl, hi, e2, I2, w2, s2⟩
  by_cases hlt : i < ds.length
  · refine .inr ⟨itd.go I2 H2 i s2.sub s2.holds hlt, fun σ' H' => ∃ e I, W (i + 1) e ∧ ST F σ' I H' e (ps ++ qs), fun σ' H' ⟨e', I', z1, z2⟩ => ⟨ds.length - (i + 1), by omega, rfl, hlt, e', I', z1, z2⟩, fun x H3 hy => ?_⟩
    obtain ⟨I3, c, g3, hc3, rx⟩ := itd.yld I2 H2 i x H3 s2.sub s2.holds hlt hy
    refine dg x c σ2 I3 H3 e2 (ps ++ qs) _ _ ((imms_app hps hqs).no _) (s2.grow g3) rx (turn i c e2 hc3 w2) fun σ4 e4 h4 s4 _ => ?_
    refine db σ4 I3 H3 e4 (ps ++ qs) _ _ (imms_app hps hqs) s4 h4 ⟨fun σ' I' H' e' h5 s5 => ⟨e', I', h5, s5⟩, fun x r σ' I' H' e' h5 s5 => k.rt x r σ' I' H' e' h5 (ST.drop s5), fun σ' I' H' e' h5 s5 => k.nx σ' I' H' e' h5 s5.weak, fun σ' I' H' e' h5 s5 => ⟨e', I', h5, s5⟩⟩
  · have hi' : i = ds.length := by omega
    subst hi'
    exact .inl ⟨itd.stop I2 H2 s2.sub s2.holds, k.nx σ2 I2 H2 e2 (fin e2 w2) s2.weak⟩
theorem ds_while (hp : PassesOwn (model X.prog X.w) X.A X.env X.xe) (hc : DTe X F c ft) (hb : DSs X F body f) : DS X F (.While c body [] pos) (sWhile ft f) := by
  obtain ⟨tc, pc, dc⟩ := hc
  obtain ⟨tb, pb, db⟩ := hb
  refine ⟨_, ps_while hp pc pb, fun σ I H e ps d D hps s h k => ?_⟩
  obtain ⟨W, ⟨m0, w0⟩, turn⟩ := h
  refine ⟨fun m σ H => ∃ e I, W m e ∧ ST F σ I H e ps, ⟨m0, e, I, w0, s⟩, ?_⟩
  rintro m σ1 H1 ⟨e1, I1, w1, s1⟩
  refine dc σ1 I1 H1 e1 ps _ _ s1 (turn m e1 w1) fun b e2 I2 H2 h2 s2 => ?_
  cases b with
  | true =>
    refine ⟨fun σ' H' => ∃ m', m' < m ∧ ∃ e I, W m' e ∧ ST F σ' I H' e ps, fun σ' H' z => z, ?_⟩
    exact db σ1 I2 H2 e2 ps _ _ hps s2 h2 ⟨fun σ' I' H' e' ⟨m', z1, z2⟩ s5 => ⟨m', z1, e', I', z2, s5⟩, k.rt, k.nx, fun σ' I' H' e' ⟨m', z1, z2⟩ s5 => ⟨m', z1, e', I', z2, s5⟩⟩
  | false => exact k.nx σ1 I2 H2 e2 h2 s2
end
/-! ### list comprehensions -/
def tOf (F : Fr) (f : EvF) : TE := fun σ H Q => ∃ (I : Hp) (e : En) (ps : Tm) (P : Rv → En → Prop), ST F σ I H e ps ∧ f e P ∧ ∀ x r e' I' H', P r e' → ST F σ I' H' e' (ps ++ [(x, r)]) → Q x H'
def tOfT (F : Fr) (f : EvT) : TT := fun σ H Q => ∃ (I : Hp) (e : En) (ps : Tm) (P : Bool → En → Prop), ST F σ I H e ps ∧ f e P ∧ ∀ b e' I' H', P b e' → ST F σ I' H' e' ps → Q b H'
def tOfG (F : Fr) (f : TgF) (sl : List Nat) : TG := fun v σ H Q => ∃ (c : D) (I : Hp) (e : En) (ps : Tm) (P : En → Prop), NoSl sl ps ∧ ST F σ I H e ps ∧ Rep F.K I v c ∧ f c e P ∧ ∀ σ' e', P e' → ST F σ' I H e' ps → SameOut sl σ σ' → Q σ' H
structure DTs (X : Cx) (F : Fr) (ifs : List Expr) (f : EvT) : Prop where
  ex : ∃ t, PTs X ifs t ∧ DTT F t f
def sYes : EvT := fun e P => P true e
section
variable {X : Cx} {F : Fr} {ex : Expr}
theorem DE.tof {f : EvF} (h : DE X F ex f) : PE X ex (tOf F f) := by
  obtain ⟨t, p, d⟩ := h
  exact ⟨fun pins s σ H Q I ⟨I', e, ps, P, st, hf, k⟩ => p.run pins s σ H Q I (d σ I' H e ps P Q st hf k)⟩
theorem DTs.tof {ifs : List Expr} {f : EvT} (h : DTs X F ifs f) : PTs X ifs (tOfT F f) := by
  obtain ⟨t, p, d⟩ := h
  exact ⟨fun pins s σ H Q I ⟨I', e, ps, P, st, hf, k⟩ => p.run pins s σ H Q I (d σ I' H e ps P Q st hf k)⟩
theorem DGt.tof {f : TgF} {sl : List Nat} (h : DGt X F ex f sl) : PG X ex (tOfG F f sl) := by
  obtain ⟨t, p, d⟩ := h
  exact ⟨fun pins s σ H v u Q I r ⟨c, I', e, ps, P, n, st, rc, hf, k⟩ => p.run pins s σ H v u Q I r (d v c σ I' H e ps P Q n st rc hf k)⟩
theorem dts_nil : DTs X F [] sYes := ⟨_, pts_nil, fun σ I H e ps P Q s h k => k true e I H h s⟩
theorem dts_one {f : EvT} (h : DTe X F ex f) : DTs X F [ex] f := by
  obtain ⟨t, p, d⟩ := h
  exact ⟨_, pts_one p, d⟩
end
def wipeE (e : En) : List Nat → En
  | [] => e
  | v :: vs => (wipeE e vs).set v none
/-- the names of a comprehension hold nothing ahead of it -/
def clearB (e : En) (vs : List Nat) : Bool := vs.all fun v => match e[v]? with
  | some (some _) => false
  | _ => true
/-- no exception leaves -/
def Fr.nox (F : Fr) : Fr := ⟨F.K, F.e0, F.I0, F.H0, fun _ _ _ _ => False, fun _ _ _ => False⟩
theorem frok_nox {F : Fr} : FrOk F.nox := fun _ _ _ _ _ _ _ _ _ _ h _ _ => h
section
variable {F : Fr} {σ σ' : L2.St} {I H I' H' : Hp} {e e' : En} {ps qs : Tm} {vs : List Nat}
theorem ST.nox (s : ST F σ I H e ps) : ST F.nox σ I H e ps := ⟨s.sub, s.len, s.env, s.ali, s.base⟩
theorem ST.unnox (s : ST F.nox σ I H e ps) : ST F σ I H e ps := ⟨s.sub, s.len, s.env, s.ali, s.base⟩
theorem wipeE_len : ∀ vs : List Nat, (wipeE e vs).length = e.length
  | [] => rfl
  | v :: vs => by unfold wipeE; rw [List.length_set, wipeE_len vs]
theorem wipeE_some {i : Nat} {t : Ent} : ∀ {vs : List Nat}, (wipeE e vs)[i]? = some (some t) → e[i]? = some (some t) ∧ i ∉ vs
  | [], h => ⟨h, by simp⟩
  | v :: vs, h => by
    unfold wipeE at h
    by_cases hi : i = v
    · subst hi
      have hl := (List.getElem?_eq_some_iff.mp h).1
      rw [List.length_set] at hl
      rw [List.getElem?_set_self hl] at h
      cases h
    · rw [List.getElem?_set_ne (Ne.symm hi)] at h
      obtain ⟨h1, h2⟩ := wipeE_some (vs := vs) h
      exact ⟨h1, by simp [hi, h2]⟩
theorem wipeE_out {i : Nat} : ∀ {vs : List Nat}, i ∉ vs → (wipeE e vs)[i]? = e[i]?
  | [], _ => rfl
  | v :: vs, h => by
    have h1 : v ≠ i := fun c => h (by rw [c]; exact List.mem_cons_self)
    have h2 : i ∉ vs := fun m => h (List.mem_cons_of_mem _ m)
    unfold wipeE
    rw [List.getElem?_set_ne h1]
    exact wipeE_out h2
theorem wipe_same (h : SameOut vs σ σ') : wipe σ' vs = wipe σ vs := by
  refine List.ext_getElem? fun i => ?_
  by_cases hi : i ∈ vs
  · have z : ∀ {τ : L2.St} {us : List Nat}, i ∈ us → (wipe τ us)[i]? = if i < τ.length then some none else none := fun {τ us} => by
      induction us with
      | nil => intro m; simp at m
      | cons v us ih =>
        intro m
        unfold wipe
        by_cases hv : v = i
        · subst hv
          rw [List.getElem?_set]
          simp [wipe_length]
        · rw [List.getElem?_set_ne hv]
          rcases List.mem_cons.mp m with q | q
          · exact absurd q.symm hv
          · exact ih q
    rw [z hi, z hi, h.1]
  · rw [wipe_out hi, wipe_out hi, h.2 i hi]
/-- slots forgotten, or read anew, where nothing is told of them -/
theorem ST.re (s : ST F σ I H e ps) (hl : e'.length = σ'.length) (h1 : ∀ (i : Nat) (t : Ent), e'[i]? = some (some t) → e[i]? = some (some t) ∧ σ'[i]? = σ[i]?) (h2 : ∀ p ∈ ps, ∀ i, p.2 = .slot i → σ'[i]? = σ[i]? ∧ e'[i]? = e[i]?) (hle : σ'.length = σ.length) : ST F σ' I H e' ps := by
  have le : e'.length = e.length := by rw [hl, hle, s.len]
  have h3 : ∀ (i : Nat) (t : Ent), (e' ++ tn ps)[i]? = some (some t) → (e ++ tn ps)[i]? = some (some t) ∧ (σ' ++ tv ps)[i]? = (σ ++ tv ps)[i]? := fun i t q => by
    by_cases hi : i < e'.length
    · rw [List.getElem?_append_left hi] at q
      obtain ⟨z1, z2⟩ := h1 i t q
      refine ⟨by rw [List.getElem?_append_left (by omega)]; exact z1, ?_⟩
      rw [List.getElem?_append_left (by omega), List.getElem?_append_left (by rw [← hle, ← hl]; exact hi)]
      exact z2
    · rw [List.getElem?_append_right (by omega)] at q
      refine ⟨by rw [List.getElem?_append_right (by omega), ← le]; exact q, ?_⟩
      rw [List.getElem?_append_right (by omega), List.getElem?_append_right (by omega), hle]
  have sl := s.env.len
  rw [List.length_append, List.length_append] at sl
  refine ⟨s.sub, hl, ⟨by rw [List.length_append, List.length_append]; omega, fun i t q => ?_, fun i j t u a q1 q2 m1 m2 => s.env.sep i j t u a (h3 i t q1).1 (h3 j u q2).1 m1 m2⟩, fun p hp i q => ?_, ⟨s.base.imm, s.base.keep, fun a ha => s.base.own a ?_, s.base.new⟩⟩
  · obtain ⟨z1, z2⟩ := h3 i t q
    rw [z2]
    exact s.env.at_ i t z1
  · obtain ⟨z1, z2⟩ := h2 p hp i q
    rw [z1, z2]
    exact s.ali p hp i q
  · obtain ⟨i, t, q, m⟩ := mem_adr.mp ha
    exact mem_adr.mpr ⟨i, t, (h3 i t q).1, m⟩
theorem clear_no (s : ST F σ I H e ps) (h : clearB e vs = true) : NoSl vs ps := fun p hp j q m => by
  obtain ⟨_, t, ht⟩ := s.ali p hp j q
  unfold clearB at h
  have z := List.all_eq_true.mp h j m
  rw [ht] at z
  cases z
theorem ST.wipe (s : ST F σ I H e ps) (n : NoSl vs ps) : ST F (L2.wipe σ vs) I H (wipeE e vs) ps :=
  s.re (by rw [wipeE_len, wipe_length]; exact s.len) (fun i t q => by
    obtain ⟨h1, h2⟩ := wipeE_some q
    exact ⟨h1, wipe_out h2⟩) (fun p hp i q => ⟨wipe_out (n p hp i q), wipeE_out (n p hp i q)⟩) (wipe_length ..)
theorem ST.unwipe (s : ST F (L2.wipe σ vs) I H (wipeE e vs) ps) (n : NoSl vs ps) : ST F σ I H (wipeE e vs) ps :=
  s.re (by have := s.len; rw [wipe_length] at this; exact this) (fun i t q => ⟨q, (wipe_out (wipeE_some q).2).symm⟩) (fun p hp i q => ⟨(wipe_out (n p hp i q)).symm, rfl⟩) (wipe_length ..).symm
/-- an own thing that is held beside is changed -/
theorem ST.mutT {a : Addr} {d d' : D} {o : HO} {x : V} (s : ST F σ I H e (ps ++ (x, .ent (.own a d)) :: qs)) (w : OwnR F.K I (upd H a o) a d') : ST F σ I (upd H a o) e (ps ++ (x, .ent (.own a d')) :: qs) := by
  obtain ⟨h1, h2⟩ := tm_at (ps := ps) (qs := qs) (x := x) (r := .ent (.own a d)) s.len
  obtain ⟨g1, g2⟩ := tm_at (σ := σ) (e := e) (ps := ps) (qs := qs) (x := x) (r := .ent (.own a d')) s.len
  have r : EntR F.K I H x (.own a d) := s.temp
  have ec := tn_set (ps := ps) (qs := qs) (x := x) (r := .ent (.own a d)) (r' := .ent (.own a d')) s.len
  have tvq : tv (ps ++ (x, .ent (.own a d)) :: qs) = tv (ps ++ (x, .ent (.own a d')) :: qs) := tv_eq
  have ain : a ∈ adr (e ++ tn (ps ++ (x, .ent (.own a d)) :: qs)) := mem_adr.mpr ⟨_, _, h2, by simp⟩
  have other : ∀ {j : Nat} {u : Ent}, (e ++ tn (ps ++ (x, .ent (.own a d')) :: qs))[j]? = some (some u) → (j = σ.length + ps.length ∧ u = .own a d') ∨ (j ≠ σ.length + ps.length ∧ (e ++ tn (ps ++ (x, .ent (.own a d)) :: qs))[j]? = some (some u)) := fun {j u} q => by
    by_cases hj : j = σ.length + ps.length
    · subst hj
      rw [g2] at q
      cases q
      exact .inl ⟨rfl, rfl⟩
    · rw [← ec, List.getElem?_set_ne (Ne.symm hj)] at q
      exact .inr ⟨hj, q⟩
  have sub_adr : ∀ b, b ∈ adr (e ++ tn (ps ++ (x, .ent (.own a d')) :: qs)) → b ∈ adr (e ++ tn (ps ++ (x, .ent (.own a d)) :: qs)) := fun b hb => by
    obtain ⟨j, u, z, m⟩ := mem_adr.mp hb
    rcases other z with ⟨_, rfl⟩ | ⟨_, z⟩
    · simp at m
      subst m
      exact ain
    · exact mem_adr.mpr ⟨j, u, z, m⟩
  have hlen := s.env.len
  refine ⟨fun b u z => ?_, s.len, ⟨?_, fun j u z => ?_, fun j k u v b z1 z2 m1 m2 => ?_⟩, fun p hp i q => ?_, s.base.trans ⟨Le.refl, fun b u z nb => ?_, fun b hb => .inl (sub_adr b hb), fun b u z => .inl z⟩⟩
  · have hb : b ≠ a := fun w => by rw [w, r.2.1] at z; cases z
    rw [upd_ne hb]
    exact s.sub b u z
  · rw [← ec, List.length_set, hlen, tvq]
  · rcases other z with ⟨rfl, rfl⟩ | ⟨hj, z⟩
    · exact ⟨x, g1, r.1, r.2.1, w⟩
    · obtain ⟨y', e1, e2⟩ := s.env.at_ j u z
      refine ⟨y', by rw [← tvq]; exact e1, e2.mono Le.refl fun b hb => ⟨(e2.has hb).2, fun v hv => ?_⟩⟩
      have hba : b ≠ a := fun w => by
        subst w
        exact hj (s.env.sep j _ u _ b z h2 hb (by simp))
      rw [upd_ne hba]
      exact hv
  · have go : ∀ {j : Nat} {u : Ent}, (e ++ tn (ps ++ (x, .ent (.own a d')) :: qs))[j]? = some (some u) → b ∈ u.adr → ∃ u' : Ent, (e ++ tn (ps ++ (x, .ent (.own a d)) :: qs))[j]? = some (some u') ∧ b ∈ u'.adr := fun {j u} z m => by
      rcases other z with ⟨rfl, rfl⟩ | ⟨hj, z⟩
      · exact ⟨_, h2, m⟩
      · exact ⟨u, z, m⟩
    obtain ⟨u', w1, w2⟩ := go z1 m1
    obtain ⟨v', w3, w4⟩ := go z2 m2
    exact s.env.sep j k u' v' b w1 w3 w2 w4
  · rcases List.mem_append.mp hp with m | m
    · exact s.ali p (List.mem_append_left _ m) i q
    · rcases List.mem_cons.mp m with m | m
      · subst m; cases q
      · exact s.ali p (List.mem_append_right _ (List.mem_cons_of_mem _ m)) i q
  · have hb : b ≠ a := fun w => nb (w ▸ ain)
    rw [upd_ne hb]
    exact z
end
/-- [elt for target in source if ..]: the names' slots vs; W says what is gathered behind i things; elements leave the frame as it is -/
def eLc (w : EvI) (g : TgF) (tt : EvT) (f : EvF) (vs : List Nat) : EvF := fun e P => w e fun ds e1 => clearB e1 vs = true ∧ ds.length ≤ 1000000 ∧ ∃ W : Nat → List D → Prop, W 0 [] ∧
  (∀ i c acc, ds[i]? = some c → W i acc → g c e1 fun e3 => tt e3 fun b e4 => if b = true then f e4 fun r e5 => ∃ d e6, frz e5 r = some (d, e6) ∧ wipeE e6 vs = wipeE e1 vs ∧ W (i + 1) (acc ++ [d]) else wipeE e4 vs = wipeE e1 vs ∧ W (i + 1) acc) ∧
  ∀ acc, W ds.length acc → ∀ a, P (.ent (.own a (.lst acc))) (wipeE e1 vs)
section
variable {X : Cx} {F : Fr} {elt tg iter : Expr} {ifs : List Expr} {scope : Scope} {own : List (Str × Nat)} {pos : Pos} {w : EvI} {g : TgF} {tt : EvT} {f : EvF} {sl : List Nat}
theorem DT.lc {wi : TI} {vs : List Nat} (hw : DTI F wi w) (hsl : ∀ j ∈ sl, j ∈ vs) : DT F (tLc wi (tOfG F.nox g sl) (tOfT F.nox tt) (tOf F.nox f) vs) (eLc w g tt f vs) := fun σ I H e ps P Q s h k => by
  refine hw σ I H e ps _ _ s h fun J ds qs e1 I1 H1 h1 hqs s1 itd => ?_
  obtain ⟨hcl, hz, W, w0, turn, fin⟩ := h1
  have nps : NoSl vs (ps ++ qs) := clear_no s1 hcl
  intro D hD
  have sW := s1.wipe nps
  have s0 : ST F (L2.wipe σ vs) I1 (upd H1 D (.lst [])) (wipeE e1 vs) (ps ++ qs ++ [(V.ref D, .ent (.own D (.lst [])))]) := sW.pushG (t := .own D (.lst [])) (Grow.alloc s1.sub hD) ⟨rfl, s1.sub.none hD, [], upd_same, .nil⟩ fun a ha => by simp at ha; subst ha; exact hD
  have nD : ∀ acc : List TK.D, NoSl vs (ps ++ qs ++ [(V.ref D, .ent (.own D (.lst acc)))]) := fun acc p hp j q => by
    rcases List.mem_append.mp hp with m | m
    · exact nps p m j q
    · rw [List.mem_singleton] at m
      subst m
      cases q
  have wE : wipeE e1 vs = e1 := by
    refine List.ext_getElem? fun i => ?_
    by_cases hi : i ∈ vs
    · have z := List.all_eq_true.mp hcl i hi
      have lw := wipeE_len (e := e1) vs
      cases q : e1[i]? with
      | none =>
        rw [List.getElem?_eq_none_iff] at q ⊢
        omega
      | some o =>
        cases o with
        | some t => rw [q] at z; cases z
        | none =>
          cases q2 : (wipeE e1 vs)[i]? with
          | none =>
            rw [List.getElem?_eq_none_iff] at q2
            have := (List.getElem?_eq_some_iff.mp q).1
            omega
          | some o2 =>
            cases o2 with
            | none => rfl
            | some t => exact absurd hi (wipeE_some q2).2
    · exact wipeE_out hi
  refine ⟨fun i m H => m = ds.length - i ∧ i ≤ ds.length ∧ ∃ (acc : List TK.D) (I : Hp), acc.length ≤ i ∧ W i acc ∧ ST F (L2.wipe σ vs) I H (wipeE e1 vs) (ps ++ qs ++ [(V.ref D, .ent (.own D (.lst acc)))]), ⟨ds.length, by simp, Nat.zero_le _, [], I1, Nat.zero_le _, w0, s0⟩, ?_⟩
  rintro i m H2 ⟨rfl, hi, acc, I2, hacc, w2, s2⟩
  have hold : Holds F.K I2 qs := (ST.weak (ps := ps ++ qs) s2).holds
  by_cases hlt : i < ds.length
  · refine .inr ⟨itd.go I2 H2 i s2.sub hold hlt, fun H' => ∃ (acc : List TK.D) (I : Hp), acc.length ≤ i + 1 ∧ W (i + 1) acc ∧ ST F (L2.wipe σ vs) I H' (wipeE e1 vs) (ps ++ qs ++ [(V.ref D, .ent (.own D (.lst acc)))]), fun H' z => ⟨ds.length - (i + 1), by omega, rfl, hlt, z⟩, fun x H3 hy => ?_⟩
    obtain ⟨I3, c, g3, hc3, rx⟩ := itd.yld I2 H2 i x H3 s2.sub hold hlt hy
    have s3 := (s2.grow g3).nox
    have tu := turn i c acc hc3 w2
    rw [← wE] at tu
    refine ⟨c, I3, wipeE e1 vs, _, _, fun p hp j q m => nD acc p hp j q (hsl j m), s3, rx, tu, fun σ4 e4 h4 s4 so => ?_⟩
    rw [wE] at h4
    have sw : wipe σ4 vs = wipe σ vs := by
      have z := wipe_same (vs := vs) (σ := L2.wipe σ vs) (σ' := σ4) ⟨so.1, fun j hj => so.2 j fun m => hj (hsl j m)⟩
      rw [z]
      exact wipe_same (vs := vs) ⟨wipe_length .., fun j hj => wipe_out hj⟩
    refine ⟨sw, I3, e4, _, _, s4, h4, fun b e5 I5 H5 h5 s5 => ?_⟩
    cases b with
    | false =>
      obtain ⟨q1, q2⟩ := h5
      have s6 := s5.unnox.wipe (vs := vs) (nD acc)
      rw [sw, q1] at s6
      exact ⟨acc, I5, by omega, q2, s6⟩
    | true =>
      refine ⟨I5, e5, _, _, s5, h5, fun y r e6 I6 H6 h6 s6 => ?_⟩
      obtain ⟨d, e7, hf, q1, q2⟩ := h6
      obtain ⟨I7, _, s7⟩ := s6.unnox.frz hf
      have ry : Rep F.K I7 y d := ST.temp (qs := []) (t := .imm d) s7
      have s8 := ST.weak s7
      have rD : EntR F.K I7 H6 (.ref D) (.own D (.lst acc)) := ST.temp (ps := ps ++ qs) (qs := []) s8
      obtain ⟨_, _, xs, hx, rr⟩ := rD
      have lx := rr.len
      refine ⟨xs, hx, by rw [lx]; exact Nat.lt_of_le_of_lt (m := 1000000) (by omega) (by decide), acc ++ [d], I7, by simp; omega, q2, ?_⟩
      have s9 := ST.mutT (ps := ps ++ qs) (qs := []) (d' := .lst (acc ++ [d])) (o := .lst (xs ++ [y])) s8 ⟨xs ++ [y], upd_same, rr.app (.cons ry .nil)⟩
      have s10 := s9.wipe (vs := vs) (nD _)
      rw [sw, q1] at s10
      exact s10
  · have hi' : i = ds.length := by omega
    subst hi'
    refine .inl ⟨itd.stop I2 H2 s2.sub hold, ?_⟩
    exact k _ _ _ I2 H2 (fin acc w2 D) (ST.drop ((s2.unwipe (nD acc))))
end
/-! ### comprehensions as expressions and stored -/
section
variable {X : Cx} {F : Fr} {elt tg iter : Expr} {ifs : List Expr} {scope : Scope} {own : List (Str × Nat)} {pos : Pos} {w : EvI} {g : TgF} {tt : EvT} {f : EvF} {sl : List Nat}
theorem de_lc (hc : X.calm = true) (hN : X.N.Nodup) (hi : DI X F tg iter w) (ok : BlkOk X.N X.env.scope scope own)
    (hg : ∀ (s : Shared) (H : Hp) (C : Addr) (cl : List (Str × Addr)) (fp : List Addr), DGt (X.blk s H scope (compEnvC scope cl C X.env) fp) F.nox tg g sl) (ht : ∀ (s : Shared) (H : Hp) (C : Addr) (cl : List (Str × Addr)) (fp : List Addr), DTs (X.blk s H scope (compEnvC scope cl C X.env) fp) F.nox ifs tt)
    (he : ∀ (s : Shared) (H : Hp) (C : Addr) (cl : List (Str × Addr)) (fp : List Addr), DE (X.blk s H scope (compEnvC scope cl C X.env) fp) F.nox elt f) (hsl : (sl.all fun j => (own.map (·.2)).contains j) = true) (hs : ∀ x, foldedSetIterable iter X.env x = pure x := by intro _; rfl) :
    DE X F (.ListComp elt [⟨tg, iter, ifs, 0⟩] scope pos) (eLc w g tt f (own.map (·.2))) := by
  obtain ⟨wi, pi, di⟩ := hi
  exact ⟨_, pe_lc hc hN pi ok (fun s H C cl fp => (hg s H C cl fp).tof) (fun s H C cl fp => (ht s H C cl fp).tof) (fun s H C cl fp => (he s H C cl fp).tof) hs, DT.lc di fun j hj => List.contains_iff_mem.mp (List.all_eq_true.mp hsl j hj)⟩
theorem ds_setLc {i : Nat} {y : Str} {py spos : Pos} (hc : X.calm = true) (hN : X.N.Nodup) (hy : X.N[i]? = some y) (hyl : X.env.scope.names.lookup y = some .local)
    (hsw : swapsWith (.ListComp elt [⟨tg, iter, ifs, 0⟩] scope pos) (some (.Name y py)) spos.line X.env = pure true) (hi : DI X F tg iter w) (ok : BlkOk X.N X.env.scope scope own)
    (hg : ∀ (s : Shared) (H : Hp) (C : Addr) (cl : List (Str × Addr)) (fp : List Addr), DGt (X.blk s H scope (compEnvC scope cl C X.env) fp) F.nox tg g sl) (ht : ∀ (s : Shared) (H : Hp) (C : Addr) (cl : List (Str × Addr)) (fp : List Addr), DTs (X.blk s H scope (compEnvC scope cl C X.env) fp) F.nox ifs tt)
    (he : ∀ (s : Shared) (H : Hp) (C : Addr) (cl : List (Str × Addr)) (fp : List Addr), DE (X.blk s H scope (compEnvC scope cl C X.env) fp) F.nox elt f) (hsl : (sl.all fun j => (own.map (·.2)).contains j) = true) (hs : ∀ x, foldedSetIterable iter X.env x = pure x := by intro _; rfl) :
    DS X F (.Assign [.Name y py] (.ListComp elt [⟨tg, iter, ifs, 0⟩] scope pos) spos) (sSet i (eLc w g tt f (own.map (·.2)))) := by
  obtain ⟨wi, pi, di⟩ := hi
  refine ⟨_, ps_setLc hc hN hy hyl hsw pi ok (fun s H C cl fp => (hg s H C cl fp).tof) (fun s H C cl fp => (ht s H C cl fp).tof) (fun s H C cl fp => (he s H C cl fp).tof) hs, fun σ I H e ps d D hp s h k => ?_⟩
  refine DT.lc di (fun j hj => List.contains_iff_mem.mp (List.all_eq_true.mp hsl j hj)) σ I H e ps _ _ s h fun x r e1 I1 H1 h1 s1 => ?_
  obtain ⟨e2, ha, h2⟩ := h1
  obtain ⟨I2, s2⟩ := s1.asg (hp.no _) ha
  exact k.nx _ I2 H1 e2 h2 s2
end
/-! ### lists changed -/
abbrev DMo := List D → List D → (List D → D → Prop) → Prop
def DMt (K : PySem.W.Frag) (r : V → List V → Hp → VK → Prop) (o : DMo) : Prop := ∀ (I H : Hp) (a : Addr) (xs ys : List V) (ds cs : List D) (P : List D → D → Prop) (Q : VK), Sub I H → I a = none → H a = some (.lst xs) → Reps K I xs ds → Reps K I ys cs → o ds cs P →
  (∀ xs' ds' y d, P ds' d → Reps K I xs' ds' → Rep K I y d → Q y (upd H a (.lst xs'))) → r (.ref a) ys H Q
def eMut (i : Nat) (o : DMo) (g : EvA) : EvF := fun e P => (∃ a ds, e[i]? = some (some (.own a (.lst ds)))) ∧ g e fun rs e1 => ∃ cs e2 a ds, frzs e1 rs = some (cs, e2) ∧ e2[i]? = some (some (.own a (.lst ds))) ∧ o ds cs fun ds' d => P (.im d) (e2.set i (some (.own a (.lst ds'))))
def eMut0 (i : Nat) (o : DMo) : EvF := fun e P => ∃ a ds, e[i]? = some (some (.own a (.lst ds))) ∧ o ds [] fun ds' d => P (.im d) (e.set i (some (.own a (.lst ds'))))
def mAppend : DMo := fun ds cs P => ∃ c, cs = [c] ∧ ds.length ≤ 1000000 ∧ P (ds ++ [c]) .non
def mExtend : DMo := fun ds cs P => ∃ xs, cs = [.lst xs] ∧ ds.length + xs.length ≤ 1000000 ∧ P (ds ++ xs) .non
def mInsert : DMo := fun ds cs P => ∃ i c, cs = [.int i, c] ∧ ds.length ≤ 1000000 ∧ 0 ≤ i ∧ i ≤ 1000000 ∧ P (ds.take i.toNat ++ [c] ++ ds.drop i.toNat) .non
def mReverse : DMo := fun ds cs P => cs = [] ∧ P ds.reverse .non
def mClear : DMo := fun _ cs P => cs = [] ∧ P [] .non
def mPop : DMo := fun ds cs P => cs = [] ∧ ∃ c, ds[ds.length - 1]? = some c ∧ P ds.dropLast c
section
variable {K : PySem.W.Frag}
theorem small6 {n : Nat} (h : n ≤ 1000000) : n < sizeLine := Nat.lt_of_le_of_lt h (by decide)
theorem dm_append : DMt K rAppend mAppend := fun I H a xs ys ds cs P Q s n ha r1 r2 h k => by
  obtain ⟨c, rfl, hz, p⟩ := h
  cases r2 with
  | cons r r2 =>
    cases r2
    exact ⟨a, xs, _, rfl, rfl, ha, by rw [r1.len]; exact small6 hz, k _ _ _ _ p (r1.app (.cons r .nil)) .non⟩
theorem dm_extend : DMt K rExtend mExtend := fun I H a xs ys ds cs P Q s n ha r1 r2 h k => by
  obtain ⟨c, rfl, hz, p⟩ := h
  cases r2 with
  | cons r r2 =>
    cases r2
    cases r with
    | @lst b zs _ hb rr => exact ⟨a, b, xs, zs, rfl, rfl, ha, s _ _ hb, by rw [r1.len, rr.len]; exact Nat.le_of_lt (small6 hz), k _ _ _ _ p (r1.app rr) .non⟩
theorem dm_insert : DMt K rInsert mInsert := fun I H a xs ys ds cs P Q s n ha r1 r2 h k => by
  obtain ⟨i, c, rfl, hz, h0, h1, p⟩ := h
  cases r2 with
  | cons r r2 =>
    cases r2 with
    | cons r' r2 =>
      cases r2
      cases r
      exact ⟨a, xs, i, _, rfl, rfl, ha, by rw [r1.len]; exact small6 hz, h0, Int.lt_of_le_of_lt h1 (by decide), k _ _ _ _ p (((r1.take _).app (.cons r' .nil)).app (r1.drop _)) .non⟩
theorem dm_reverse : DMt K rReverse mReverse := fun I H a xs ys ds cs P Q s n ha r1 r2 h k => by
  obtain ⟨rfl, p⟩ := h
  cases r2
  exact ⟨a, xs, rfl, rfl, ha, k _ _ _ _ p r1.rev .non⟩
theorem dm_clear : DMt K rClear mClear := fun I H a xs ys ds cs P Q s n ha r1 r2 h k => by
  obtain ⟨rfl, p⟩ := h
  cases r2
  exact ⟨a, xs, rfl, rfl, ha, k _ _ _ _ p .nil .non⟩
theorem Reps.dropLast {I : Hp} {xs : List V} {ds : List D} (r : Reps K I xs ds) : Reps K I xs.dropLast ds.dropLast := by
  rw [List.dropLast_eq_take, List.dropLast_eq_take, r.len]
  exact r.take _
theorem dm_pop : DMt K rPop mPop := fun I H a xs ys ds cs P Q s n ha r1 r2 h k => by
  obtain ⟨rfl, c, hc, p⟩ := h
  cases r2
  obtain ⟨x, e1, e2⟩ := r1.get hc
  exact ⟨a, xs, x, rfl, rfl, ha, by rw [r1.len]; exact e1, k _ _ _ _ p r1.dropLast e2⟩
end
theorem ST.ownL {F : Fr} {σ : L2.St} {I H : Hp} {e : En} {ps : Tm} {i : Nat} {a : Addr} {ds : List D} (s : ST F σ I H e ps) (q : e[i]? = some (some (.own a (.lst ds)))) : σ[i]? = some (some (.ref a)) ∧ I a = none ∧ ∃ xs, H a = some (.lst xs) ∧ Reps F.K I xs ds := by
  obtain ⟨y, y1, rfl, n, xs, h, r⟩ := s.slot q
  exact ⟨y1, n, xs, h, r⟩
theorem ST.mutL {F : Fr} {σ : L2.St} {I H : Hp} {e : En} {ps : Tm} {i : Nat} {a : Addr} {ds ds' : List D} {xs' : List V} (s : ST F σ I H e ps) (q : e[i]? = some (some (.own a (.lst ds)))) (r : Reps F.K I xs' ds') : ST F σ I (upd H a (.lst xs')) (e.set i (some (.own a (.lst ds')))) ps :=
  s.mut q ⟨xs', upd_same, r⟩
section
variable {X : Cx} {F : Fr} {i : Nat} {x m : Str} {p apos cpos : Pos} {ex : Expr} {exs : List Expr} {o : DMo} {g : EvA} {r : V → List V → Hp → VK → Prop} {id : String}
theorem de_mut (slot : Slot "list" m id) (hty : typeOf (.builtin id) = pure (.type "method_descriptor")) (hm : MtR X id r) (ho : DMt X.K r o) (ht : PE X (.Name x p) (tVar i)) (ha : DA X F (ex :: exs) g) (hK : F.K = X.K := by first | rfl | assumption)
    (hbase : attributeBase (.Name x p) m X.env (eval (.Name x p) X.env) = eval (.Name x p) X.env := by rfl)
    (hfew : ((backTo cpos (starEach (ex :: exs) X.env)).all (fun x => !x.1) && (backToKw cpos (keywordEach [] X.env)).all (fun x => x.1.isSome) && decide ((ex :: exs).length + ([] : List Keyword).length + (if ([] : List Keyword).isEmpty then 0 else 1) < 30)) = true := by rfl)
    (hline : (apos.endLine == cpos.line) = true := by rfl) (hs : starEach (ex :: exs) X.env = (false, eval ex X.env) :: starEach exs X.env := by rfl) (hplain : (backTo cpos (starEach exs X.env)).any (·.1) = false := by rfl) :
    DE X F (.Call (.Attribute (.Name x p) m apos) (ex :: exs) [] cpos) (eMut i o g) := by
  obtain ⟨t, pa, d⟩ := ha
  refine ⟨_, pe_bm PySem.F.plainAttrs_list slot hty hm ht pa hbase hfew hline hs hplain, fun σ I H e ps P Q s h k => ?_⟩
  obtain ⟨⟨a0, ds0, h0⟩, h⟩ := h
  obtain ⟨y1, _, xs0, hx0, _⟩ := s.ownL h0
  refine ⟨.ref a0, y1, .inl ⟨rfl, xs0, SqL.of hx0⟩, ?_⟩
  refine d σ I H e ps _ _ s h fun ys rs e1 I1 H1 h1 hl s1 => ?_
  obtain ⟨cs, e2, a, ds, hf, he, hq⟩ := h1
  obtain ⟨I2, _, s2, rr⟩ := s1.frzs hl hf
  obtain ⟨z1, n, xs, hx, rx⟩ := s2.ownL he
  rw [y1] at z1
  cases z1
  rw [hK] at rx rr
  refine ho I2 H1 a0 xs ys ds cs _ _ s2.sub n hx rx rr hq fun xs' ds' y c hp r' ry => ?_
  rw [← hK] at r' ry
  exact k y _ _ I2 _ hp ((s2.mutL he r').pushI ry)
theorem de_mut0 (slot : Slot "list" m id) (hty : typeOf (.builtin id) = pure (.type "method_descriptor")) (hm : MtR X id r) (ho : DMt X.K r o) (ht : PE X (.Name x p) (tVar i)) (hK : F.K = X.K := by first | rfl | assumption)
    (hbase : attributeBase (.Name x p) m X.env (eval (.Name x p) X.env) = eval (.Name x p) X.env := by rfl)
    (hline : (apos.endLine == cpos.line) = true := by rfl) :
    DE X F (.Call (.Attribute (.Name x p) m apos) [] [] cpos) (eMut0 i o) := by
  refine ⟨_, pe_bm0 PySem.F.plainAttrs_list slot hty hm ht hbase (hline := hline), fun σ I H e ps P Q s h k => ?_⟩
  obtain ⟨a, ds, he, hq⟩ := h
  obtain ⟨z1, n, xs, hx, rx⟩ := s.ownL he
  refine ⟨.ref a, z1, .inl ⟨rfl, xs, SqL.of hx⟩, ?_⟩
  rw [hK] at rx
  refine ho I H a xs [] ds [] _ _ s.sub n hx rx .nil hq fun xs' ds' y c hp r' ry => ?_
  rw [← hK] at r' ry
  exact k y _ _ I _ hp ((s.mutL he r').pushI ry)
end
/-- xs[i] = v -/
def sSetIx (i : Nat) (fi fv : EvF) : SvF := fun e d => fv e fun rv e1 => (∃ a ds, e1[i]? = some (some (.own a (.lst ds)))) ∧ fi e1 fun ri e2 => ∃ c e3 a ds z j, val e2 ri = some (.int z) ∧ frz e2 rv = some (c, e3) ∧ e3[i]? = some (some (.own a (.lst ds))) ∧ ixN ds.length z = some j ∧ d.nx (e3.set i (some (.own a (.lst (ds.set j c)))))
section
variable {X : Cx} {F : Fr} {i : Nat} {x : Str} {p pos pos' : Pos} {vx ix : Expr} {fv fi : EvF}
theorem ds_setIx (ht : PE X (.Name x p) (tVar i)) (hi : DE X F ix fi) (hv : DE X F vx fv) (hs : swapsWithSole [.Subscript (.Name x p) ix pos'] vx pos.line X.env = pure false := by rfl) (hw : swappedStores [.Subscript (.Name x p) ix pos'] vx X.env = pure none := by rfl)
    (h1 : (assignEach [.Subscript (.Name x p) ix pos'] X.env).map (·.2) = [assign (.Subscript (.Name x p) ix pos') X.env] := by rfl)
    (ha : ∀ v, assign (.Subscript (.Name x p) ix pos') X.env v = (do
      let ov ← holding [v] (eval (.Name x p) X.env)
      let iv ← holding [v, ov] (eval ix X.env)
      standAt pos'
      holding [v, ov, iv] (setItem ov iv v)
      release [v, ov, iv] []) := by intro _; rfl) : DS X F (.Assign [.Subscript (.Name x p) ix pos'] vx pos) (sSetIx i fi fv) := by
  obtain ⟨ti, pi, di⟩ := hi
  obtain ⟨tw, pw, dw⟩ := hv
  refine ⟨_, ps_asg pw (pg_sub ht pi set_list ha) hs hw h1, fun σ I H e ps d D hp s h k => ?_⟩
  refine dw σ I H e ps _ _ s h fun v rv e1 I1 H1 h1 s1 => ?_
  obtain ⟨⟨a0, ds0, h0⟩, h1⟩ := h1
  obtain ⟨y1, _, xs0, hx0, _⟩ := s1.ownL h0
  refine ⟨.ref a0, y1, ?_⟩
  refine di σ I1 H1 e1 _ _ _ s1 h1 fun w ri e2 I2 H2 h2 s2 => ?_
  obtain ⟨c, e3, a, ds, z, j, v1, hf, he, hj, hn⟩ := h2
  have wi := (s2.vw (qs := []) v1).int
  rw [List.append_assoc] at s2
  obtain ⟨I3, _, s3⟩ := s2.frz hf
  have rc : Rep F.K I3 v c := s3.temp
  obtain ⟨z1, n, xs, hx, rx⟩ := s3.ownL he
  rw [y1] at z1
  cases z1
  refine ⟨a0, xs, z, j, rfl, wi, hx, by rw [rx.len]; exact hj, ?_⟩
  exact k.nx _ I3 _ _ hn ((s3.mutL he (rx.set rc j)).weak)
end
/-! ### dicts -/
def keyS : D → Option Key
  | .int i => some (.inl i)
  | .str x => some (.inr x)
  | _ => none
def keysS : List D → Option (List Key)
  | [] => some []
  | d :: ds => match keyS d with
    | some k => match keysS ds with
      | some ks => some (k :: ks)
      | none => none
    | none => none
def keyT : D → Option (List Key)
  | .tup ds => keysS ds
  | _ => none
def lookD {κ : Type} [DecidableEq κ] (es : List (κ × D)) (k : κ) : Option D := (es.find? fun p => decide (p.1 = k)).map (·.2)
def putD {κ : Type} [DecidableEq κ] (es : List (κ × D)) (k : κ) (v : D) : List (κ × D) := if (es.any fun p => decide (p.1 = k)) = true then es.map (fun p => if p.1 = k then (p.1, v) else p) else es ++ [(k, v)]
section
variable {K : PySem.W.Frag} {I : Hp} {κ : Type} [DecidableEq κ]
theorem keyS_rep {x : V} {d : D} {k : Key} (r : Rep K I x d) (h : keyS d = some k) : x = kV k := by
  cases r <;> cases h <;> rfl
theorem keysS_rep : ∀ {xs : List V} {ds : List D} {ks : List Key}, Reps K I xs ds → keysS ds = some ks → xs = ks.map kV
  | _, _, _, .nil, h => by cases h; rfl
  | _, _, _, .cons (x := x) (d := d) r rr, h => by
    unfold keysS at h
    split at h
    · rename_i k hk
      split at h
      · rename_i ks' hks
        cases h
        rw [List.map_cons, keyS_rep r hk, keysS_rep rr hks]
      · cases h
    · cases h
theorem look_rel {k : κ} : ∀ {kvs : List (κ × V)} {es : List (κ × D)}, kvs.map (·.1) = es.map (·.1) → Reps K I (kvs.map (·.2)) (es.map (·.2)) → (valV kvs k = none ∧ lookD es k = none) ∨ ∃ x d, valV kvs k = some x ∧ lookD es k = some d ∧ Rep K I x d
  | [], [], _, _ => .inl ⟨rfl, rfl⟩
  | [], _ :: _, m, _ => by cases m
  | _ :: _, [], m, _ => by cases m
  | (g, x) :: kvs, (g', d) :: es, m, r => by
    rw [List.map_cons, List.map_cons] at m r
    injection m with m1 m2
    have m1' : g = g' := m1
    subst m1'
    cases r with
    | cons r1 r2 =>
      by_cases h : g = k
      · refine .inr ⟨x, d, valV_pos h, ?_, r1⟩
        unfold lookD
        simp [List.find?_cons, h]
      · rw [valV_neg h, show lookD ((g, d) :: es) k = lookD es k by unfold lookD; simp [List.find?_cons, h]]
        exact look_rel m2 r2
theorem any_rel {k : κ} : ∀ {kvs : List (κ × V)} {es : List (κ × D)}, kvs.map (·.1) = es.map (·.1) → (kvs.any fun p => decide (p.1 = k)) = (es.any fun p => decide (p.1 = k))
  | [], [], _ => rfl
  | [], _ :: _, m => by cases m
  | _ :: _, [], m => by cases m
  | (g, x) :: kvs, (g', d) :: es, m => by
    rw [List.map_cons, List.map_cons] at m
    injection m with m1 m2
    have m1' : g = g' := m1
    subst m1'
    rw [List.any_cons, List.any_cons, any_rel m2]
theorem put_rel {k : κ} {x : V} {d : D} (rx : Rep K I x d) {kvs : List (κ × V)} {es : List (κ × D)} (m : kvs.map (·.1) = es.map (·.1)) (r : Reps K I (kvs.map (·.2)) (es.map (·.2))) :
    (putK kvs k x).map (·.1) = (putD es k d).map (·.1) ∧ Reps K I ((putK kvs k x).map (·.2)) ((putD es k d).map (·.2)) := by
  have go : ∀ {kvs : List (κ × V)} {es : List (κ × D)}, kvs.map (·.1) = es.map (·.1) → Reps K I (kvs.map (·.2)) (es.map (·.2)) →
      (kvs.map (fun kv => if kv.1 = k then (kv.1, x) else kv)).map (·.1) = (es.map (fun p => if p.1 = k then (p.1, d) else p)).map (·.1) ∧ Reps K I ((kvs.map (fun kv => if kv.1 = k then (kv.1, x) else kv)).map (·.2)) ((es.map (fun p => if p.1 = k then (p.1, d) else p)).map (·.2)) := fun {kvs} => by
    induction kvs with
    | nil =>
      intro es m r
      cases es with
      | nil => exact ⟨rfl, .nil⟩
      | cons _ _ => cases m
    | cons p kvs ih =>
      intro es m r
      cases es with
      | nil => cases m
      | cons q es =>
        rw [List.map_cons, List.map_cons] at m r
        injection m with m1 m2
        cases r with
        | cons r1 r2 =>
          obtain ⟨i1, i2⟩ := ih m2 r2
          rw [List.map_cons, List.map_cons, List.map_cons, List.map_cons, List.map_cons, List.map_cons]
          by_cases h : p.1 = k
          · rw [if_pos h, if_pos (m1 ▸ h)]
            exact ⟨by rw [i1, m1], .cons rx i2⟩
          · rw [if_neg h, if_neg (m1 ▸ h)]
            exact ⟨by rw [i1, m1], .cons r1 i2⟩
  unfold putK putD
  rw [any_rel m]
  split
  · exact go m r
  · refine ⟨by rw [List.map_append, List.map_append, m]; rfl, ?_⟩
    rw [List.map_append, List.map_append]
    exact r.app (.cons rx .nil)
end
/-- the dict read: what stands at the key -/
def dLook : D → D → (Option D → Prop) → Prop
  | .dic es, kd, P => ∃ k, keyT kd = some k ∧ P (lookD es k)
  | .dik es, kd, P => ∃ k, keyS kd = some k ∧ P (lookD es k)
  | _, _, _ => False
theorem dget_of {K : PySem.W.Frag} {I H : Hp} {x y : V} {c d : D} {P : Option D → Prop} (s : Sub I H) (v1 : VwR K I H x c) (v2 : VwR K I H y d) (h : dLook c d P) :
    ∃ a o p, x = .ref a ∧ IsD H a ∧ DGet H a y o ∧ P p ∧ ((o = none ∧ p = none) ∨ ∃ z q, o = some z ∧ p = some q ∧ Rep K I z q) := by
  cases c with
  | dic es =>
    obtain ⟨k, hk, p⟩ := h
    obtain ⟨a, kvs, rfl, ha, m, r⟩ := v1.dic s
    cases d with
    | tup ds =>
      obtain ⟨b, xs, rfl, hb, rr⟩ := v2.tup s
      have e := keysS_rep rr hk
      subst e
      refine ⟨a, _, _, rfl, .inr ⟨kvs, .inl ha⟩, DGet.t (k := k) ha hb, p, ?_⟩
      rcases look_rel (k := k) m r with ⟨h1, h2⟩ | ⟨z, q, h1, h2, h3⟩
      · exact .inl ⟨h1, h2⟩
      · exact .inr ⟨z, q, h1, h2, h3⟩
    | _ => cases hk
  | dik es =>
    obtain ⟨k, hk, p⟩ := h
    obtain ⟨a, kvs, rfl, ha, m, r⟩ := v1.dik s
    have e : y = kV k := by
      cases d with
      | int i => cases hk; exact v2.int
      | str z => cases hk; exact v2.str
      | _ => cases hk
    subst e
    refine ⟨a, _, _, rfl, .inl ⟨kvs, .inl ha⟩, DGet.k (k := k) ha, p, ?_⟩
    rcases look_rel (k := k) m r with ⟨h1, h2⟩ | ⟨z, q, h1, h2, h3⟩
    · exact .inl ⟨h1, h2⟩
    · exact .inr ⟨z, q, h1, h2, h3⟩
  | _ => exact h.elim
def eDGet (fd fk : EvF) : EvF := fun e P => fd e fun r1 e1 => fk e1 fun r2 e2 => ∃ c d, val e2 r1 = some c ∧ val e2 r2 = some d ∧ dLook c d fun p => ∃ q, p = some q ∧ P (.im q) e2
def eDIn (fk fd : EvF) : EvF := fun e P => fk e fun r1 e1 => fd e1 fun r2 e2 => ∃ d c, val e2 r1 = some d ∧ val e2 r2 = some c ∧ dLook c d fun p => P (.im (.bl p.isSome)) e2
def eDNin (fk fd : EvF) : EvF := fun e P => fk e fun r1 e1 => fd e1 fun r2 e2 => ∃ d c, val e2 r1 = some d ∧ val e2 r2 = some c ∧ dLook c d fun p => P (.im (.bl !p.isSome)) e2
def eDGet1 (fd fk : EvF) : EvF := fun e P => fd e fun r1 e1 => (∃ c, val e1 r1 = some c ∧ ((∃ es, c = .dic es) ∨ ∃ es, c = .dik es)) ∧ fk e1 fun r2 e2 => ∃ c d, val e2 r1 = some c ∧ val e2 r2 = some d ∧ dLook c d fun p => P (.im (p.getD .non)) e2
def eDGet2 (fd fk fx : EvF) : EvF := fun e P => fd e fun r1 e1 => (∃ c, val e1 r1 = some c ∧ ((∃ es, c = .dic es) ∨ ∃ es, c = .dik es)) ∧ fk e1 fun r2 e2 => fx e2 fun r3 e3 => ∃ c d q e4, val e3 r1 = some c ∧ val e3 r2 = some d ∧ frz e3 r3 = some (q, e4) ∧ dLook c d fun p => P (.im (p.getD q)) e4
def sDput (i : Nat) (fk fv : EvF) : SvF := fun e d => fv e fun rv e1 => (∃ t, e1[i]? = some (some t)) ∧ fk e1 fun rk e2 => ∃ c e3 kd e4 a, frz e2 rv = some (c, e3) ∧ frz e3 rk = some (kd, e4) ∧
  ((∃ es k, e4[i]? = some (some (.own a (.dic es))) ∧ keyT kd = some k ∧ es.length ≤ 1000000 ∧ d.nx (e4.set i (some (.own a (.dic (putD es k c)))))) ∨
   ∃ es k, e4[i]? = some (some (.own a (.dik es))) ∧ keyS kd = some k ∧ es.length ≤ 1000000 ∧ d.nx (e4.set i (some (.own a (.dik (putD es k c))))))
section
variable {X : Cx} {F : Fr} {a b c : Expr} {f g h : EvF} {pos : Pos}
theorem de_dget (hu : X.A.units + 1 < cLine) (h1 : DE X F a f) (h2 : DE X F b g) (hs : L2.NoSl b := by exact (fun _ _ => rfl)) : DE X F (.Subscript a b pos) (eDGet f g) := by
  obtain ⟨t1, p1, d1⟩ := h1
  obtain ⟨t2, p2, d2⟩ := h2
  refine ⟨_, pe_dget hu p1 p2 hs, fun σ I H e ps P Q s h k => ?_⟩
  refine d1 σ I H e ps _ _ s h fun x r1 e1 I1 H1 h1 s1 => ?_
  refine d2 σ I1 H1 e1 _ _ _ s1 h1 fun y r2 e2 I2 H2 h2 s2 => ?_
  obtain ⟨c, d, v1, v2, q⟩ := h2
  have s2' := s2
  rw [List.append_assoc] at s2'
  obtain ⟨a', o, p, rfl, _, hg, ⟨q', rfl, hp⟩, z⟩ := dget_of s2.sub (s2'.vw v1) (s2.vw (qs := []) v2) q
  rcases z with ⟨_, z⟩ | ⟨w, q2, rfl, z, rw'⟩
  · cases z
  · cases z
    exact ⟨a', w, rfl, hg, k w _ e2 I2 H2 hp (s2.weak.weak.pushI rw')⟩
theorem dinT {ta tb : TE} {neg : Bool} {ff : EvF → EvF → EvF} (d1 : DT F ta g) (d2 : DT F tb f) : DT F (fun σ H Q => ta σ H fun y H1 => tb σ H1 fun x H2 => ∃ a o, x = .ref a ∧ DGet H2 a y o ∧ Q (.bl (if neg then !o.isSome else o.isSome)) H2)
    (fun e P => g e fun r1 e1 => f e1 fun r2 e2 => ∃ d c, val e2 r1 = some d ∧ val e2 r2 = some c ∧ dLook c d fun p => P (.im (.bl (if neg then !p.isSome else p.isSome))) e2) := fun σ I H e ps P Q s h k => by
  refine d1 σ I H e ps _ _ s h fun y r1 e1 I1 H1 h1 s1 => ?_
  refine d2 σ I1 H1 e1 _ _ _ s1 h1 fun x r2 e2 I2 H2 h2 s2 => ?_
  obtain ⟨d, c, v1, v2, q⟩ := h2
  have s2' := s2
  rw [List.append_assoc] at s2'
  obtain ⟨a', o, p, rfl, _, hg, hp, z⟩ := dget_of s2.sub (s2.vw (qs := []) v2) (s2'.vw v1) q
  refine ⟨a', o, rfl, hg, ?_⟩
  have e0 : o.isSome = p.isSome := by
    rcases z with ⟨rfl, rfl⟩ | ⟨_, _, rfl, rfl, _⟩ <;> rfl
  rw [e0]
  exact k _ _ e2 I2 H2 hp (s2.weak.weak.pushI (.bl _))
theorem de_din (hu : X.A.units + 1 < cLine) (h1 : DE X F b g) (h2 : DE X F a f) (hm : behindInMarks .In a = false := by rfl) : DE X F (.Compare b [.In] [a] pos) (eDIn g f) := by
  obtain ⟨t1, p1, d1⟩ := h1
  obtain ⟨t2, p2, d2⟩ := h2
  exact ⟨_, pe_cmp (pc_din hu p1 p2) hm, dinT (neg := false) (ff := fun a _ => a) d1 d2⟩
theorem dt_din (hu : X.A.units + 1 < cLine) (h1 : DE X F b g) (h2 : DE X F a f) (hm : behindInMarks .In a = false := by rfl) : DTe X F (.Compare b [.In] [a] pos) (eTest (eDIn g f)) := by
  obtain ⟨t1, p1, d1⟩ := h1
  obtain ⟨t2, p2, d2⟩ := h2
  exact ⟨_, pt_cmp (pc_din hu p1 p2) hm, DTT.of (dinT (neg := false) (ff := fun a _ => a) d1 d2)⟩
theorem de_dnin (hu : X.A.units + 1 < cLine) (h1 : DE X F b g) (h2 : DE X F a f) (hm : behindInMarks .NotIn a = false := by rfl) : DE X F (.Compare b [.NotIn] [a] pos) (eDNin g f) := by
  obtain ⟨t1, p1, d1⟩ := h1
  obtain ⟨t2, p2, d2⟩ := h2
  exact ⟨_, pe_cmp (pc_dnotin hu p1 p2) hm, dinT (neg := true) (ff := fun a _ => a) d1 d2⟩
theorem dt_dnin (hu : X.A.units + 1 < cLine) (h1 : DE X F b g) (h2 : DE X F a f) (hm : behindInMarks .NotIn a = false := by rfl) : DTe X F (.Compare b [.NotIn] [a] pos) (eTest (eDNin g f)) := by
  obtain ⟨t1, p1, d1⟩ := h1
  obtain ⟨t2, p2, d2⟩ := h2
  exact ⟨_, pt_cmp (pc_dnotin hu p1 p2) hm, DTT.of (dinT (neg := true) (ff := fun a _ => a) d1 d2)⟩
theorem isD_of {x : V} {c : D} {I H : Hp} {K : PySem.W.Frag} (s : Sub I H) (v : VwR K I H x c) (h : (∃ es, c = .dic es) ∨ ∃ es, c = .dik es) : ∃ a, x = .ref a ∧ IsD H a := by
  rcases h with ⟨es, rfl⟩ | ⟨es, rfl⟩
  · obtain ⟨a, kvs, rfl, ha, _⟩ := v.dic s
    exact ⟨a, rfl, .inr ⟨kvs, .inl ha⟩⟩
  · obtain ⟨a, kvs, rfl, ha, _⟩ := v.dik s
    exact ⟨a, rfl, .inl ⟨kvs, .inl ha⟩⟩
theorem de_dget1 {apos cpos : Pos} (hu : X.A.units + 1 < cLine) (h1 : DE X F a f) (h2 : DE X F b g) (m : M1 X a "get" apos b cpos) : DE X F (.Call (.Attribute a "get" apos) [b] [] cpos) (eDGet1 f g) := by
  obtain ⟨t1, p1, d1⟩ := h1
  obtain ⟨t2, p2, d2⟩ := h2
  refine ⟨_, pe_dget1 hu p1 p2 m, fun σ I H e ps P Q s h k => ?_⟩
  refine d1 σ I H e ps _ _ s h fun x r1 e1 I1 H1 h1 s1 => ?_
  obtain ⟨⟨c0, v0, hd⟩, h1⟩ := h1
  obtain ⟨a', rfl, hdd⟩ := isD_of s1.sub (s1.vw (qs := []) v0) hd
  refine ⟨a', rfl, hdd, ?_⟩
  refine d2 σ I1 H1 e1 _ _ _ s1 h1 fun y r2 e2 I2 H2 h2 s2 => ?_
  obtain ⟨c, d, v1, v2, q⟩ := h2
  have s2' := s2
  rw [List.append_assoc] at s2'
  obtain ⟨a2, o, p, e0, _, hg, hp, z⟩ := dget_of s2.sub (s2'.vw v1) (s2.vw (qs := []) v2) q
  cases e0
  refine ⟨o, hg, ?_⟩
  rcases z with ⟨rfl, rfl⟩ | ⟨w, q2, rfl, rfl, rr⟩
  · exact k _ _ e2 I2 H2 hp (s2.weak.weak.pushI .non)
  · exact k _ _ e2 I2 H2 hp (s2.weak.weak.pushI rr)
theorem de_dget2 {apos cpos : Pos} (hu : X.A.units + 1 < cLine) (h1 : DE X F a f) (h2 : DE X F b g) (h3 : DE X F c h) (m : M2 X a "get" apos b c cpos) : DE X F (.Call (.Attribute a "get" apos) [b, c] [] cpos) (eDGet2 f g h) := by
  obtain ⟨t1, p1, d1⟩ := h1
  obtain ⟨t2, p2, d2⟩ := h2
  obtain ⟨t3, p3, d3⟩ := h3
  refine ⟨_, pe_dget2 hu p1 p2 p3 m, fun σ I H e ps P Q s h k => ?_⟩
  refine d1 σ I H e ps _ _ s h fun x r1 e1 I1 H1 h1 s1 => ?_
  obtain ⟨⟨c0, v0, hd⟩, h1⟩ := h1
  obtain ⟨a', rfl, hdd⟩ := isD_of s1.sub (s1.vw (qs := []) v0) hd
  refine ⟨a', rfl, hdd, ?_⟩
  refine d2 σ I1 H1 e1 _ _ _ s1 h1 fun y r2 e2 I2 H2 h2 s2 => ?_
  refine d3 σ I2 H2 e2 _ _ _ s2 h2 fun w r3 e3 I3 H3 h3 s3 => ?_
  obtain ⟨c, d, q0, e4, v1, v2, hf, q⟩ := h3
  have s3' := s3
  rw [List.append_assoc] at s3'
  have s3'' := s3'
  rw [List.append_assoc] at s3''
  obtain ⟨a2, o, p, e0, _, hg, hp, z⟩ := dget_of s3.sub (s3''.vw v1) (s3'.vw v2) q
  cases e0
  obtain ⟨I4, _, s4⟩ := s3.frz hf
  have rw0 : Rep F.K I4 w q0 := ST.temp (qs := []) (t := .imm q0) s4
  refine ⟨o, hg, ?_⟩
  rcases z with ⟨rfl, rfl⟩ | ⟨w2, q2, rfl, rfl, rr⟩
  · exact k _ _ e4 I4 H3 hp (s4.weak.weak.weak.pushI rw0)
  · exact k _ _ e4 I4 H3 hp (s4.weak.weak.weak.pushI (rr.mono (by assumption)))
theorem ds_dput {i : Nat} {x : Str} {p pos' : Pos} {kx vx : Expr} {fk fv : EvF} (hu : X.A.units + 1 < cLine) (ht : PE X (.Name x p) (tVar i)) (hk : DE X F kx fk) (hv : DE X F vx fv) (hs : swapsWith vx (some (.Subscript (.Name x p) kx pos')) pos.line X.env = pure false := by rfl) :
    DS X F (.Assign [.Subscript (.Name x p) kx pos'] vx pos) (sDput i fk fv) := by
  obtain ⟨tk, pk, dk⟩ := hk
  obtain ⟨tw, pw, dw⟩ := hv
  refine ⟨_, ps_dput hu ht pk pw hs, fun σ I H e ps d D hp s h k => ?_⟩
  refine dw σ I H e ps _ _ s h fun v rv e1 I1 H1 h1 s1 => ?_
  obtain ⟨⟨t0, h0⟩, h1⟩ := h1
  obtain ⟨y, y1, _⟩ := s1.slot h0
  refine ⟨y, y1, ?_⟩
  refine dk σ I1 H1 e1 _ _ _ s1 h1 fun w rk e2 I2 H2 h2 s2 => ?_
  obtain ⟨c, e3, kd, e4, a, hf, hg, h2⟩ := h2
  rw [List.append_assoc] at s2
  obtain ⟨I3, _, s3⟩ := s2.frz hf
  have s3' : ST F σ I3 H2 e3 ((ps ++ [(v, .im c)]) ++ [(w, rk)]) := by rw [List.append_assoc]; exact s3
  obtain ⟨I4, _, s4⟩ := s3'.frz hg
  have rk' : Rep F.K I4 w kd := ST.temp (ps := ps ++ [(v, .im c)]) (qs := []) (t := .imm kd) s4
  have rc : Rep F.K I4 v c := ST.temp (ps := ps) (qs := []) (t := .imm c) s4.weak
  have s0 : ST F σ I4 H2 e4 ps := s4.weak.weak
  rcases h2 with ⟨es, k0, he, hk0, hz, hn⟩ | ⟨es, k0, he, hk0, hz, hn⟩
  · obtain ⟨y', z1, rfl, n, kvs, ha, m, r⟩ := s0.slot he
    rw [y1] at z1
    cases z1
    cases kd with
    | tup ds =>
      cases rk' with
      | @tup b xs _ hb rr =>
        have e0 := keysS_rep rr hk0
        subst e0
        obtain ⟨m2, r2⟩ := put_rel (k := k0) rc m r
        have lz : kvs.length = es.length := by simpa using congrArg List.length m
        refine ⟨a, _, rfl, DPut.t (k := k0) ha (s0.sub _ _ hb) (by rw [lz]; exact small6 hz), k.nx _ I4 _ _ hn (s0.mut he ⟨_, upd_same, m2, r2⟩)⟩
    | _ => cases hk0
  · obtain ⟨y', z1, rfl, n, kvs, ha, m, r⟩ := s0.slot he
    rw [y1] at z1
    cases z1
    have e0 : w = kV k0 := keyS_rep rk' hk0
    subst e0
    obtain ⟨m2, r2⟩ := put_rel (k := k0) rc m r
    have lz : kvs.length = es.length := by simpa using congrArg List.length m
    refine ⟨a, _, rfl, DPut.k (k := k0) ha (by rw [lz]; exact small6 hz), k.nx _ I4 _ _ hn (s0.mut he ⟨_, upd_same, m2, r2⟩)⟩
end
/-! ### built-in calls -/
structure DCR (X : Cx) (f : Value) (g : DON) : Prop where
  ex : ∃ r, CallR X f r ∧ DCl X.K r g
def cLen : DON
  | [.lst ds], P => P (.imm (.int ((ds.length : Nat) : Int)))
  | [.fls ds], P => P (.imm (.int ((ds.length : Nat) : Int)))
  | [.tup ds], P => P (.imm (.int ((ds.length : Nat) : Int)))
  | [.ftp ds], P => P (.imm (.int ((ds.length : Nat) : Int)))
  | [.str z], P => z.length ≤ sizeLine ∧ P (.imm (.int ((z.length : Nat) : Int)))
  | [.dic es], P => P (.imm (.int ((es.length : Nat) : Int)))
  | [.dik es], P => P (.imm (.int ((es.length : Nat) : Int)))
  | _, _ => False
def cInt : DON
  | [.int i], P => P (.imm (.int i))
  | [.bl b], P => P (.imm (.int (if b then 1 else 0)))
  | _, _ => False
def cAbs : DON
  | [.int i], P => P (.imm (.int (if i < 0 then -i else i)))
  | _, _ => False
def cMax : DON
  | [.int i, .int j], P => P (.imm (.int (if j > i then j else i)))
  | _, _ => False
def cMin : DON
  | [.int i, .int j], P => P (.imm (.int (if j < i then j else i)))
  | _, _ => False
def cList : DON
  | [.lst ds], P => ∀ a, P (.own a (.lst ds))
  | [.fls ds], P => ∀ a, P (.own a (.lst ds))
  | [.tup ds], P => ∀ a, P (.own a (.lst ds))
  | [.ftp ds], P => ∀ a, P (.own a (.lst ds))
  | _, _ => False
def cTuple : DON
  | [.lst ds], P => P (.imm (.tup ds))
  | [.tup ds], P => P (.imm (.tup ds))
  | _, _ => False
def cBool : DON
  | [.int i], P => P (.imm (.bl (i != 0)))
  | [.bl b], P => P (.imm (.bl b))
  | _, _ => False
def cStr : DON
  | [.int i], P => i.natAbs.log2 < 1920 ∧ P (.imm (.str (toString i)))
  | _, _ => False
section
variable {X : Cx} {K : PySem.W.Frag} {I H : Hp} {xs : List V} {c d : D}
theorem VwRs.one (h : VwRs K I H xs [c]) : ∃ x, xs = [x] ∧ VwR K I H x c := by
  cases h with
  | cons h1 h2 => cases h2; exact ⟨_, rfl, h1⟩
theorem VwRs.two (h : VwRs K I H xs [c, d]) : ∃ x y, xs = [x, y] ∧ VwR K I H x c ∧ VwR K I H y d := by
  cases h with
  | cons h1 h2 =>
    obtain ⟨y, rfl, h3⟩ := h2.one
    exact ⟨_, y, rfl, h1, h3⟩
theorem dcr_len : DCR X (.builtin "len") cLen := ⟨_, call_len_seq.or (call_len_str.or (call_len_dT.or call_lenD)), fun I H xs ds P Q s v h k => by
  unfold cLen at h
  split at h
  · obtain ⟨x, rfl, w⟩ := v.one
    obtain ⟨a, ys, rfl, ha, r⟩ := w.lst s
    exact .inl ⟨a, ys, rfl, .inl (SqL.of ha), by rw [r.len]; exact k.imm s h (.int _)⟩
  · obtain ⟨x, rfl, w⟩ := v.one
    obtain ⟨a, ys, rfl, ha, r⟩ := w.fls s
    exact .inl ⟨a, ys, rfl, .inl ha, by rw [r.len]; exact k.imm s h (.int _)⟩
  · obtain ⟨x, rfl, w⟩ := v.one
    obtain ⟨a, ys, rfl, ha, r⟩ := w.tup s
    exact .inl ⟨a, ys, rfl, .inr (SqT.of ha), by rw [r.len]; exact k.imm s h (.int _)⟩
  · obtain ⟨x, rfl, w⟩ := v.one
    obtain ⟨a, ys, rfl, ha, r⟩ := w.ftp s
    exact .inl ⟨a, ys, rfl, .inr ha, by rw [r.len]; exact k.imm s h (.int _)⟩
  · obtain ⟨x, rfl, w⟩ := v.one
    exact .inr (.inl ⟨_, by rw [w.str], h.1, k.imm s h.2 (.int _)⟩)
  · obtain ⟨x, rfl, w⟩ := v.one
    obtain ⟨a, kvs, rfl, ha, m, r⟩ := w.dic s
    have lz := congrArg List.length m
    rw [List.length_map, List.length_map] at lz
    exact .inr (.inr (.inl ⟨a, kvs, rfl, ha, by rw [lz]; exact k.imm s h (.int _)⟩))
  · obtain ⟨x, rfl, w⟩ := v.one
    obtain ⟨a, kvs, rfl, ha, m, r⟩ := w.dik s
    have lz := congrArg List.length m
    rw [List.length_map, List.length_map] at lz
    exact .inr (.inr (.inr ⟨a, kvs, rfl, ha, by rw [lz]; exact k.imm s h (.int _)⟩))
  · exact h.elim⟩
theorem dcr_int : DCR X (.type "int") cInt := ⟨_, c_int, fun I H xs ds P Q s v h k => by
  unfold cInt at h
  split at h
  · obtain ⟨x, rfl, w⟩ := v.one
    exact .inl ⟨_, by rw [w.int], k.imm s h (.int _)⟩
  · obtain ⟨x, rfl, w⟩ := v.one
    exact .inr ⟨_, by rw [w.bl], k.imm s h (.int _)⟩
  · exact h.elim⟩
theorem dcr_abs : DCR X (.builtin "abs") cAbs := ⟨_, c_abs, fun I H xs ds P Q s v h k => by
  unfold cAbs at h
  split at h
  · obtain ⟨x, rfl, w⟩ := v.one
    exact ⟨_, by rw [w.int], k.imm s h (.int _)⟩
  · exact h.elim⟩
theorem dcr_max (hc : X.calm = true) : DCR X (.builtin "max") cMax := ⟨_, c_max hc, fun I H xs ds P Q s v h k => by
  unfold cMax at h
  split at h
  · exact ⟨_, _, v.ints2, k.imm s h (.int _)⟩
  · exact h.elim⟩
theorem dcr_min (hc : X.calm = true) : DCR X (.builtin "min") cMin := ⟨_, c_min hc, fun I H xs ds P Q s v h k => by
  unfold cMin at h
  split at h
  · exact ⟨_, _, v.ints2, k.imm s h (.int _)⟩
  · exact h.elim⟩
theorem dcr_list : DCR X (.type "list") cList := ⟨_, c_list, fun I H xs ds P Q s v h k => by
  unfold cList at h
  split at h
  · obtain ⟨x, rfl, w⟩ := v.one
    obtain ⟨a, ys, rfl, ha, r⟩ := w.lst s
    exact ⟨a, ys, rfl, .inl (SqL.of ha), k.lst s h r⟩
  · obtain ⟨x, rfl, w⟩ := v.one
    obtain ⟨a, ys, rfl, ha, r⟩ := w.fls s
    exact ⟨a, ys, rfl, .inl ha, k.lst s h r⟩
  · obtain ⟨x, rfl, w⟩ := v.one
    obtain ⟨a, ys, rfl, ha, r⟩ := w.tup s
    exact ⟨a, ys, rfl, .inr (SqT.of ha), k.lst s h r⟩
  · obtain ⟨x, rfl, w⟩ := v.one
    obtain ⟨a, ys, rfl, ha, r⟩ := w.ftp s
    exact ⟨a, ys, rfl, .inr ha, k.lst s h r⟩
  · exact h.elim⟩
theorem dcr_tuple : DCR X (.type "tuple") cTuple := ⟨_, call_tuple_of, fun I H xs ds P Q s v h k => by
  unfold cTuple at h
  split at h
  · obtain ⟨x, rfl, w⟩ := v.one
    obtain ⟨a, ys, rfl, ha, r⟩ := w.lst s
    exact ⟨a, ys, rfl, .inl ⟨SqL.of ha, k.tup s h r⟩⟩
  · obtain ⟨x, rfl, w⟩ := v.one
    obtain ⟨a, ys, rfl, ha, r⟩ := w.tup s
    rcases w with w | ⟨_, _, w⟩
    · exact ⟨a, ys, rfl, .inr ⟨SqT.of ha, k.imm s h w⟩⟩
    · exact w.elim
  · exact h.elim⟩
theorem dcr_bool : DCR X (.type "bool") cBool := ⟨_, call_bool1, fun I H xs ds P Q s v h k => by
  unfold cBool at h
  split at h
  · obtain ⟨x, rfl, w⟩ := v.one
    exact .inl ⟨_, by rw [w.int], k.imm s h (.bl _)⟩
  · obtain ⟨x, rfl, w⟩ := v.one
    exact .inr ⟨_, by rw [w.bl], k.imm s h (.bl _)⟩
  · exact h.elim⟩
theorem dcr_str : DCR X (.type "str") cStr := ⟨_, call_str_int, fun I H xs ds P Q s v h k => by
  unfold cStr at h
  split at h
  · obtain ⟨x, rfl, w⟩ := v.one
    exact ⟨_, by rw [w.int], h.1, k.imm s h.2 (.str _)⟩
  · exact h.elim⟩
end
/-- a thing's type, or its class -/
def tyOfD : D → Option Value
  | .non => some (.type "NoneType")
  | .bl _ => some (.type "bool")
  | .int _ => some (.type "int")
  | .str _ => some (.type "str")
  | .lst _ => some (.type "list")
  | .fls _ => some (.type "list")
  | .tup _ => some (.type "tuple")
  | .ftp _ => some (.type "tuple")
  | .dic _ => some (.type "dict")
  | .dik _ => some (.type "dict")
  | .obj C _ => some (.ref C)
  | _ => none
def clOfD : D → Option Value
  | .ty n => some (.type n)
  | .cls C => some (.ref C)
  | _ => none
/-- what the classes of the text must have for isinstance -/
structure IsiC (K : PySem.W.Frag) (C : Addr) : Prop where
  cl : Cls K C
  i1 : PySem.W.findIn K (.ref C) "__class__" = some (some (.builtin "object.__class__"))
  i2 : PySem.W.specialIn K (.builtin "object.__class__") "__get__" = some (some (.builtin "getset_descriptor.__get__"))
  i3 : PySem.W.takesIn K (.builtin "object.__class__") = some true
  i4 : PySem.W.mroIn K C (.type "object") = some true
def cIsi (K : PySem.W.Frag) : DON := fun ds P => ∃ d c, ds = [d, c] ∧ (∀ C fs, d = .obj C fs → IsiC K C) ∧ ∃ t u b, tyOfD d = some t ∧ clOfD c = some u ∧ PySem.W.kitOne K t u = some b ∧ P (.imm (.bl b))
theorem tyX_of {K : PySem.W.Frag} {I H : Hp} {x : V} {d : D} {t : Value} (s : Sub I H) (v : VwR K I H x d) (hC : ∀ C fs, d = .obj C fs → IsiC K C) (h : tyOfD d = some t) : TyX K H x t := by
  cases d with
  | non => cases h; rw [v.non]; exact .base .non
  | bl b => cases h; rw [v.bl]; exact .base (.bl _)
  | int i => cases h; rw [v.int]; exact .base (.int _)
  | str i => cases h; rw [v.str]; exact .base (.str _)
  | lst ds => cases h; obtain ⟨a, ys, rfl, ha, r⟩ := v.lst s; exact .base (.lst ha)
  | fls ds =>
    cases h
    obtain ⟨a, ys, rfl, ha, r⟩ := v.fls s
    rcases ha with (ha | ⟨o, ha⟩) | ⟨o, its, n, ha, hc, _⟩
    · exact .base (.lst ha)
    · exact .base (.frz ha)
    · exact .kList ha hc
  | tup ds => cases h; obtain ⟨a, ys, rfl, ha, r⟩ := v.tup s; exact .base (.tup ha)
  | ftp ds =>
    cases h
    obtain ⟨a, ys, rfl, ha, r⟩ := v.ftp s
    rcases ha with (ha | ⟨o, ha⟩) | ⟨o, its, n, ha, hc, _⟩
    · exact .base (.tup ha)
    · exact .fTuple ha
    · exact .kTuple ha hc
  | dic es => cases h; obtain ⟨a, ys, rfl, ha, r⟩ := v.dic s; exact .base (.dT ha)
  | dik es => cases h; obtain ⟨a, ys, rfl, ha, r⟩ := v.dik s; exact .base (.dK ha)
  | obj C fs =>
    cases h
    obtain ⟨a, dx, gs, rfl, ha, m, r⟩ := v.obj s
    have c := hC C fs rfl
    exact .base (.ins ha c.cl c.i1 c.i2 c.i3 c.i4)
  | cls C => cases h
  | ty n => cases h
theorem dcr_isi {X : Cx} : DCR X (.builtin "isinstance") (cIsi X.K) := ⟨_, call_isi, fun I H xs ds P Q s v h k => by
  obtain ⟨d, c, rfl, hC, t, u, b, h1, h2, h3, p⟩ := h
  · obtain ⟨x, y, rfl, v1, v2⟩ := v.two
    have cv : ClsV y u := by
      cases c with
      | ty n => cases h2; rw [v2.ty]; exact .ty n
      | cls C =>
        cases h2
        rcases v2 with v2 | ⟨_, _, v2⟩
        · cases v2; exact .own C
        · exact v2.elim
      | _ => cases h2
    exact ⟨x, y, t, u, b, rfl, cv, tyX_of s v1 hC h1, h3, k.imm s p (.bl _)⟩⟩
section
variable {X : Cx} {F : Fr} {g : DON} {x : Str} {p pos : Pos} {ex : Expr} {exs : List Expr} {f : EvA}
theorem de_blt {id : String} (h : DCR X (.builtin id) g) (hg : Gl X x) (hm : X.mg x = none) (hv : bootBuiltins x = some (.builtin id)) (ha : DA X F (ex :: exs) f) (hK : F.K = X.K := by first | rfl | assumption) (hn : x ≠ "__name__" := by decide) (hdb : (x == ("__debug__" : Str)) = false := by decide)
    (he : starEach (ex :: exs) X.env = (false, eval ex X.env) :: starEach exs X.env := by rfl) (hpl : (backTo pos (starEach exs X.env)).any (·.1) = false := by rfl) : DE X F (.Call (.Name x p) (ex :: exs) [] pos) (eCl g f) := by
  obtain ⟨r, hr, dr⟩ := h
  obtain ⟨t, pa, d⟩ := ha
  exact ⟨_, pe_callB hr hg hm hv pa hn hdb he hpl, DT.cl (by rw [hK]; exact dr) d⟩
theorem de_typ {T : String} (h : DCR X (.type T) g) (hg : Gl X x) (hm : X.mg x = none) (hv : bootBuiltins x = some (.type T)) (ha : DA X F (ex :: exs) f) (hK : F.K = X.K := by first | rfl | assumption) (hn : x ≠ "__name__" := by decide) (hdb : (x == ("__debug__" : Str)) = false := by decide)
    (he : starEach (ex :: exs) X.env = (false, eval ex X.env) :: starEach exs X.env := by rfl) (hpl : (backTo pos (starEach exs X.env)).any (·.1) = false := by rfl) : DE X F (.Call (.Name x p) (ex :: exs) [] pos) (eCl g f) := by
  obtain ⟨r, hr, dr⟩ := h
  obtain ⟨t, pa, d⟩ := ha
  exact ⟨_, pe_callTy hr hg hm hv pa hn hdb he hpl, DT.cl (by rw [hK]; exact dr) d⟩
end
/-! ### in, not in -/
def strsOf : List D → Option (List Str)
  | [] => some []
  | .str z :: ds => (strsOf ds).map fun zs => z :: zs
  | _ :: _ => none
def oIn : DO2
  | .str k, .ftp ds, P => ∃ zs, strsOf ds = some zs ∧ P (.imm (.bl (zs.contains k)))
  | .str k, .tup ds, P => ∃ zs, strsOf ds = some zs ∧ P (.imm (.bl (zs.contains k)))
  | c, .lst ds, P => okP c ∧ okP (.lst ds) ∧ P (.imm (.bl (ds.any fun z => eqD z c)))
  | .str k, .str z, P => ∃ c : Nat, k = ⟨#[c]⟩ ∧ P (.imm (.bl (decide (c ∈ z.cps.toList))))
  | _, _, _ => False
def oNin : DO2 := fun c d P => oIn c d fun t => ∃ b, t = .imm (.bl b) ∧ P (.imm (.bl !b))
theorem toPys_any {c : D} : ∀ ds : List D, ((toPys ds).any fun z => PyData.eqv z (toPy c)) = ds.any fun z => eqD z c
  | [] => rfl
  | d :: ds => by rw [toPys, List.any_cons, List.any_cons, toPys_any ds]; rfl
theorem strsOf_rep {K : PySem.W.Frag} {I : Hp} : ∀ {xs : List V} {ds : List D} {zs : List Str}, Reps K I xs ds → strsOf ds = some zs → xs = zs.map V.str
  | _, _, zs, .nil, h => by cases h; rfl
  | _, _, zs, .cons (d := d) r rr, h => by
    cases d with
    | str z =>
      unfold strsOf at h
      cases q : strsOf _ with
      | none => rw [q] at h; cases h
      | some zs' =>
        rw [q] at h
        cases h
        cases r
        rw [List.map_cons, strsOf_rep rr q]
    | _ => cases h
theorem inV_strs (k : Str) : ∀ zs : List Str, inV (.str k) (zs.map V.str) = zs.contains k
  | [] => rfl
  | z :: zs => by
    have ih := inV_strs k zs
    unfold inV at ih ⊢
    rw [List.map_cons, List.any_cons, ih, List.contains_cons]
    congr 1
    show (z == k) = (k == z)
    by_cases e : z = k
    · subst e; rfl
    · rw [beq_false_of_ne e, beq_false_of_ne (Ne.symm e)]
theorem flat_strs (zs : List Str) : (zs.map V.str).all flatV = true := by
  rw [List.all_eq_true]
  intro x hx
  obtain ⟨z, _, rfl⟩ := List.mem_map.mp hx
  rfl
section
variable {X : Cx}
theorem oIn_gen {K : PySem.W.Frag} {I H : Hp} {x y : V} {c d : D} {P : Ent → Prop} (s : Sub I H) (v1 : VwR K I H x c) (v2 : VwR K I H y d) (h : oIn c d P) :
    (∃ p xs b, y = .ref p ∧ SqT K H p xs ∧ flatV x = true ∧ xs.all flatV = true ∧ inV x xs = b ∧ P (.imm (.bl b))) ∨ (∃ ds, d = .lst ds ∧ okP c ∧ okP d ∧ P (.imm (.bl (ds.any fun z => eqD z c)))) ∨
    (∃ (i : Nat) (z : Str), x = .str ⟨#[i]⟩ ∧ y = .str z ∧ P (.imm (.bl (decide (i ∈ z.cps.toList))))) := by
  cases d with
  | ftp ds =>
    cases c with
    | str k =>
      obtain ⟨zs, hz, p⟩ := h
      obtain ⟨a, xs, rfl, ha, r⟩ := v2.ftp s
      have e := strsOf_rep r hz
      subst e
      rw [v1.str]
      exact .inl ⟨a, _, _, rfl, ha, rfl, flat_strs zs, inV_strs _ zs, p⟩
    | _ => exact h.elim
  | tup ds =>
    cases c with
    | str k =>
      obtain ⟨zs, hz, p⟩ := h
      obtain ⟨a, xs, rfl, ha, r⟩ := v2.tup s
      have e := strsOf_rep r hz
      subst e
      rw [v1.str]
      exact .inl ⟨a, _, _, rfl, SqT.of ha, rfl, flat_strs zs, inV_strs _ zs, p⟩
    | _ => exact h.elim
  | lst ds => exact .inr (.inl ⟨ds, rfl, by cases c <;> exact h⟩)
  | str z =>
    cases c with
    | str k =>
      obtain ⟨i, rfl, p⟩ := h
      exact .inr (.inr ⟨i, z, v1.str, v2.str, p⟩)
    | _ => exact h.elim
  | _ => cases c <;> exact h.elim
theorem dor_in (hu : X.A.units + 65 < cLine) : DOR X (compareOp .In) oIn := ⟨_, op_in_seq.or ((op_inD hu).or op_in_sign), fun I H x y c d P Q s v1 v2 h k => by
  rcases oIn_gen s v1 v2 h with ⟨p, xs, b, rfl, hq, f1, f2, e, q⟩ | ⟨ds, rfl, h1, h2, q⟩ | ⟨i, z, rfl, rfl, q⟩
  · refine .inl ⟨p, xs, rfl, .inr hq, f1, f2, ?_⟩
    rw [if_neg Bool.false_ne_true, e]
    exact k.imm s q (.bl _)
  · refine .inr (.inl ⟨toPy c, toPys ds, Rep.dpH s v1 h1, Rep.dpH s v2 h2, okD_shaped h1 (by decide), okD_shaped (n := 40) h2 (by decide), ?_⟩)
    rw [toPys_any]
    exact k.imm s q (.bl _)
  · exact .inr (.inr ⟨i, z, rfl, rfl, k.imm s q (.bl _)⟩)⟩
theorem dor_nin (hu : X.A.units + 65 < cLine) : DOR X (compareOp .NotIn) oNin := ⟨_, op_notIn_seq.or ((op_notInD hu).or op_notIn_sign), fun I H x y c d P Q s v1 v2 h k => by
  rcases oIn_gen s v1 v2 h with ⟨p, xs, b, rfl, hq, f1, f2, e, b', e', q⟩ | ⟨ds, rfl, h1, h2, b', e', q⟩ | ⟨i, z, rfl, rfl, b', e', q⟩
  · refine .inl ⟨p, xs, rfl, .inr hq, f1, f2, ?_⟩
    cases e'
    rw [if_pos rfl, e]
    exact k.imm s q (.bl _)
  · refine .inr (.inl ⟨toPy c, toPys ds, Rep.dpH s v1 h1, Rep.dpH s v2 h2, okD_shaped h1 (by decide), okD_shaped (n := 40) h2 (by decide), ?_⟩)
    cases e'
    rw [toPys_any]
    exact k.imm s q (.bl _)
  · cases e'
    exact .inr (.inr ⟨i, z, rfl, rfl, k.imm s q (.bl _)⟩)⟩
end
/-! ### methods, properties, classes called -/
theorem fs_none {f : Str} : ∀ {fs : List (Str × V)} {es : List (Str × D)}, fs.map (·.1) = es.map (·.1) → es.lookup f = none → fs.lookup f = none
  | [], _, _, _ => rfl
  | _ :: _, [], m, _ => by cases m
  | (g, x) :: fs, (g', d) :: es, m, h => by
    rw [List.map_cons, List.map_cons] at m
    injection m with m1 m2
    have m1' : g = g' := m1
    subst m1'
    rw [List.lookup_cons] at h ⊢
    cases q : f == g with
    | true => rw [q] at h; cases h
    | false => rw [q] at h; exact fs_none m2 h
/-- the call itself, the arguments at hand -/
def callD (PX : Addr → D → En → Prop) (con : Con) (as : List Ag) (e1 : En) (P : Rv → En → Prop) : Prop := ∃ es, entsOf e1 as = some es ∧ oneEach (refsOf as) = true ∧
  con es (fun t es' => es'.length = es.length ∧ ∃ e2, backTo' e1 as es' = some e2 ∧ P (.ent t) e2) (fun C d es' => ∃ e2, backTo' e1 as es' = some e2 ∧ PX C d e2)
def eMeth (PX : Addr → D → En → Prop) (C : Addr) (m : Str) (con : Con) (f : EvF) (g : EvG) : EvF := fun e P => f e fun r e1 => ∃ fs e2, frz e1 r = some (.obj C fs, e2) ∧ fs.lookup m = none ∧ g e2 fun as e3 => callD PX con (.v (.obj C fs) :: as) e3 P
def eMeth0 (PX : Addr → D → En → Prop) (C : Addr) (m : Str) (con : Con) (f : EvF) : EvF := fun e P => f e fun r e1 => ∃ fs e2, frz e1 r = some (.obj C fs, e2) ∧ fs.lookup m = none ∧ callD PX con [.v (.obj C fs)] e2 P
def eProp (C : Addr) (con : Con) (f : EvF) : EvF := fun e P => f e fun r e1 => ∃ fs e2, frz e1 r = some (.obj C fs, e2) ∧ callD (fun _ _ _ => False) con [.v (.obj C fs)] e2 P
def eMake (PX : Addr → D → En → Prop) (con : Con) (g : EvG) : EvF := fun e P => g e fun as e1 => callD PX con as e1 P
/-- a class's own promise, from that of its __init__ -/
def MkD (K : PySem.W.Frag) (C : Addr) (sp : Sp) (con : Con) : Prop := ∀ (vs : List V) (H : Hp) (Q : VK) (E : XK), spD K con vs H Q E → ∀ x dx, H x = none → H dx = none → dx ≠ x →
  sp (.ref x :: vs) (upd (upd H dx (.own x)) x (.ins C dx [])) (fun v H2 => v = .non ∧ Q (.ref x) H2) E
section
variable {X : Cx} {F : Fr} {σ : L2.St} {I H : Hp} {e : En} {ps : Tm}
theorem ST.called {con : Con} {xs : List V} {as : List Ag} {P : Rv → En → Prop} {Q : VK} (s : ST F σ I H e (ps ++ xs.zip (as.map Ag.rv))) (hl : xs.length = as.length) (fo : FrOk F) (h : callD F.PX con as e P)
    (k : ∀ x r e' I' H', P r e' → ST F σ I' H' e' (ps ++ [(x, r)]) → Q x H') : spD F.K con xs H Q (WE F.W σ) := by
  obtain ⟨es, he, o, hc⟩ := h
  refine ⟨I, es, _, _, s.sub, s.give hl he o, hc, fun r es' x I2 H2 hp sub2 env2 st2 => ?_, fun C d es' x dd I2 H2 hp sub2 env2 st2 rx hx => ?_⟩
  · obtain ⟨hes, e2, hb, hp⟩ := hp
    exact k x _ e2 I2 H2 hp (s.tookR hl he o hb sub2 env2 hes st2)
  · obtain ⟨e2, hb, hp⟩ := hp
    exact fo σ I2 H2 e2 ps C d x dd (s.took hl he o hb sub2 env2 st2 fun _ z => z) hp rx hx
variable {k : Nat} {f C : Addr} {fd : FuncData} {pn : List Str} {con : Con} {x m : Str} {p apos pos : Pos} {o ex : Expr} {exs : List Expr} {g : EvG} {fo' : EvF}
theorem de_meth {pl : Sem Bool} (ho : DE X F o fo') (c : Cls X.K C) (hm : Meth X.K C m f) (G : FnOk X.prog X.w X.K X.mg X.base (L2.CX X.prog X.w) k f fd pn (spD X.K con)) (hr : Room k X.A) (hb : Binds X.K fd pn []) (tk : Takes X F.W) (fo : FrOk F) (ha : DG X F (ex :: exs) g) (hK : F.K = X.K := by first | rfl | assumption)
    (hst : starEach (ex :: exs) X.env = (false, eval ex X.env) :: starEach exs X.env := by rfl) (hpl : (backTo pos (starEach exs X.env)).any (·.1) = false := by rfl)
    (ht : eval (.Call (.Attribute o m apos) (ex :: exs) [] pos) X.env = (do
      let ov ← eval o X.env; standAt apos.atName; let (f, first) ← holding [ov] (getMethod ov m pl)
      callWith pos f first (backTo pos (starEach (ex :: exs) X.env)) (backToKw pos (keywordEach [] X.env))) := by rfl) :
    DE X F (.Call (.Attribute o m apos) (ex :: exs) [] pos) (eMeth F.PX C m con fo' g) := by
  obtain ⟨t0, p0, d0⟩ := ho
  obtain ⟨t, pa, d⟩ := ha
  refine ⟨_, pe_methE (pl := pl) p0 c hm G hr hb (fun σ => passAt tk σ) pa hst hpl ht, fun σ I H e ps P Q s h k => ?_⟩
  refine d0 σ I H e ps _ _ s h fun x r e1 I1 H1 h1 s1 => ?_
  obtain ⟨fs, e2, hf, hn, h2⟩ := h1
  obtain ⟨I2, _, s2⟩ := s1.frz hf
  have rx : Rep F.K I2 x (.obj C fs) := ST.temp (qs := []) (t := .imm (.obj C fs)) s2
  cases rx with
  | @obj a _ dx gs _ hx mm rr =>
    refine ⟨a, dx, gs, rfl, s2.sub _ _ hx, fs_none mm hn, ?_⟩
    refine d σ I2 H1 e2 _ _ _ s2 h2 fun xs as e3 I3 H3 h3 hl s3 => ?_
    rw [← hK]
    refine ST.called (I := I3) (ps := ps) (as := .v (.obj C fs) :: as) ?_ (by simp [hl]) fo h3 k
    rw [List.map_cons, List.zip_cons_cons]
    rw [List.append_assoc] at s3
    exact s3
theorem pe_methE0 {pl : Sem Bool} {sp : Sp} {E : L2.St → XK} {CX : CXT} {ta : TE} (he : PE X o ta) (c : Cls X.K C) (hm : Meth X.K C m f) (G : FnOk X.prog X.w X.K X.mg X.base CX k f fd pn sp) (hr : Room k X.A) (hb : Binds X.K fd pn []) (hx : ∀ σ, PassesAt CX X σ (E σ))
    (ht : eval (.Call (.Attribute o m apos) [] [] pos) X.env = (do
      let ov ← eval o X.env; standAt apos.atName; let (f, first) ← holding [ov] (getMethod ov m pl)
      callWith pos f first (backTo pos (starEach [] X.env)) (backToKw pos (keywordEach [] X.env))) := by rfl) :
    PE X (.Call (.Attribute o m apos) [] [] pos) (fun σ H Q => ta σ H fun x H1 => ∃ a dx fs, x = .ref a ∧ H1 a = some (.ins C dx fs) ∧ fs.lookup m = none ∧ sp [x] H1 Q (E σ)) := by
  constructor
  intro pins s σ H Q I h
  apply PySem.W.methodCall_KW (pl := pl) (thn (he.run pins s σ H _ I h) ?_) ht
  rintro u s1 ⟨x, H1, I1, rx, a, dx, fs, rfl, ea, l, q⟩
  cases rx
  apply getmeth_ok I1 ea c hm l
  exact PySem.W.callWith_K0 (first := [.ref a]) I1.kIn hm.kp (run_fnS (us := [.ref a]) (vs := [V.ref a]) G hr hb (hx σ) I1 (.cons (show RelV (.ref a) (.ref a) from rfl) .nil) q)
theorem de_meth0 {pl : Sem Bool} (ho : DE X F o fo') (c : Cls X.K C) (hm : Meth X.K C m f) (G : FnOk X.prog X.w X.K X.mg X.base (L2.CX X.prog X.w) k f fd pn (spD X.K con)) (hr : Room k X.A) (hb : Binds X.K fd pn []) (tk : Takes X F.W) (fo : FrOk F) (hK : F.K = X.K := by first | rfl | assumption)
    (ht : eval (.Call (.Attribute o m apos) [] [] pos) X.env = (do
      let ov ← eval o X.env; standAt apos.atName; let (f, first) ← holding [ov] (getMethod ov m pl)
      callWith pos f first (backTo pos (starEach [] X.env)) (backToKw pos (keywordEach [] X.env))) := by rfl) :
    DE X F (.Call (.Attribute o m apos) [] [] pos) (eMeth0 F.PX C m con fo') := by
  obtain ⟨t0, p0, d0⟩ := ho
  refine ⟨_, pe_methE0 (pl := pl) p0 c hm G hr hb (fun σ => passAt tk σ) ht, fun σ I H e ps P Q s h k => ?_⟩
  refine d0 σ I H e ps _ _ s h fun x r e1 I1 H1 h1 s1 => ?_
  obtain ⟨fs, e2, hf, hn, h2⟩ := h1
  obtain ⟨I2, _, s2⟩ := s1.frz hf
  have rx : Rep F.K I2 x (.obj C fs) := ST.temp (qs := []) (t := .imm (.obj C fs)) s2
  cases rx with
  | @obj a _ dx gs _ hx mm rr =>
    refine ⟨a, dx, gs, rfl, s2.sub _ _ hx, fs_none mm hn, ?_⟩
    rw [← hK]
    exact ST.called (ps := ps) (as := [.v (.obj C fs)]) s2 rfl fo h2 k
theorem de_prop {q : Addr} (ho : DE X F o fo') (c : Cls X.K C) (hp : PropOf X.K C m q f) (G : FnOk X.prog X.w X.K X.mg X.base (L2.CX X.prog X.w) k f fd pn (spD X.K con)) (hr : Room (k + 1) X.A) (hb : Binds X.K fd pn []) (hK : F.K = X.K := by first | rfl | assumption)
    (hab : attributeBase o m X.env (eval o X.env) = eval o X.env := by rfl) : DE X F (.Attribute o m pos) (eProp C con fo') := by
  obtain ⟨t0, p0, d0⟩ := ho
  refine ⟨_, pe_prop p0 c hp G hr hb .nil passL hab, fun σ I H e ps P Q s h k => ?_⟩
  refine d0 σ I H e ps _ _ s h fun x r e1 I1 H1 h1 s1 => ?_
  obtain ⟨fs, e2, hf, h2⟩ := h1
  obtain ⟨I2, _, s2⟩ := s1.frz hf
  have rx : Rep F.K I2 x (.obj C fs) := ST.temp (qs := []) (t := .imm (.obj C fs)) s2
  cases rx with
  | @obj a _ dx gs _ hx mm rr =>
    refine ⟨a, dx, gs, rfl, s2.sub _ _ hx, ?_⟩
    rw [← hK]
    exact ST.called (F := F.nox) (ps := ps) (as := [.v (.obj C fs)]) s2.nox rfl frok_nox h2 fun x r e' I' H' p s => k x r e' I' H' p s.unnox
end
/-! ### a class called; raise; try -/
section
variable {X : Cx} {F : Fr} {k : Nat} {f C : Addr} {fd : FuncData} {pn : List Str} {con : Con} {x : Str} {p pos : Pos} {ex : Expr} {exs : List Expr} {g : EvG} {sp : Sp}
theorem pe_makeE {E : L2.St → XK} {CX : CXT} {t : TA} (M : Mk X.K C f) (G : FnOk X.prog X.w X.K X.mg X.base CX k f fd pn sp) (hr : Room (k + 1) X.A) (hg : Gl X x) (hm : X.mg x = some (.ref C)) (hb : Binds X.K fd pn []) (hx : ∀ σ, PassesAt CX X σ (E σ)) (ha : PA X (ex :: exs) t)
    (hdb : (x == ("__debug__" : Str)) = false := by decide) (he : starEach (ex :: exs) X.env = (false, eval ex X.env) :: starEach exs X.env := by rfl) (hpl : (backTo pos (starEach exs X.env)).any (·.1) = false := by rfl) :
    PE X (.Call (.Name x p) (ex :: exs) [] pos) (fun σ H Q => t σ H fun vs H1 => ∀ q dx, H1 q = none → H1 dx = none → dx ≠ q → sp (.ref q :: vs) (upd (upd H1 dx (.own q)) q (.ins C dx [])) (fun v H2 => v = .non ∧ Q (.ref q) H2) (E σ)) := by
  constructor
  intro pins s σ H Q I h
  apply wpAny_Call_Name_kw (ld_glob I hg hm ?_ hdb)
  apply PySem.W.callWith_K (h₀ := X.base) I.ok.mod.kin M.kp (thn (ha.run pos pins s σ H _ I h) ?_) he hpl
  rintro us s1 ⟨vs, H1, I1, r, q⟩
  refine ⟨I1.kIn, ?_⟩
  have hq := q (s1.heap.objs.size + 1) s1.heap.objs.size (I1.hok.fresh (Nat.le_succ _)) (I1.hok.fresh (Nat.le_refl _)) (Nat.ne_of_lt (Nat.lt_succ_self _))
  have I2 := Inv.made (C := C) I1
  have r2 : Vals (V.ref (s1.heap.objs.size + 1) :: vs) (Value.ref (s1.heap.objs.size + 1) :: us) := .cons (show RelV (.ref _) (.ref _) from rfl) r
  have hl : (Value.ref (s1.heap.objs.size + 1) :: us).length = pn.length := r2.length.symm.trans (G.len _ _ _ _ hq)
  have b := hb _ (Value.ref (s1.heap.objs.size + 1) :: us) I2.kIn (by rw [List.append_nil]; exact hl)
  rw [List.append_nil] at b
  apply wpAny_call
  apply make_map (f := f) I1.kIn M.makes M.init (beq_iff_eq.mp M.fn)
  apply codeAny_mono (G.run _ X.stack _ _ ⟨Value.ref (s1.heap.objs.size + 1) :: us, []⟩ _ _ _ (E σ) (hr.make C us []) (I2.env0.make C us []) b r2 hq)
  intro r s' hq'
  match r, hq' with
  | .error e, hq' => exact hx σ pins _ _ e s' I2 hq'
  | .ok (.ret u), hq' =>
    obtain ⟨v, H', I3, rv, ev, q3⟩ := I2.after hq'
    subst ev
    exact ⟨rv, ⟨V.ref (s1.heap.objs.size + 1), H', I3, rfl, q3⟩⟩
theorem de_make (M : Mk X.K C f) (G : FnOk X.prog X.w X.K X.mg X.base (L2.CX X.prog X.w) k f fd pn sp) (hM : MkD X.K C sp con) (hr : Room (k + 1) X.A) (hg : Gl X x) (hm : X.mg x = some (.ref C)) (hb : Binds X.K fd pn []) (tk : Takes X F.W) (fo : FrOk F) (ha : DG X F (ex :: exs) g)
    (hK : F.K = X.K := by first | rfl | assumption) (hdb : (x == ("__debug__" : Str)) = false := by decide) (he : starEach (ex :: exs) X.env = (false, eval ex X.env) :: starEach exs X.env := by rfl) (hpl : (backTo pos (starEach exs X.env)).any (·.1) = false := by rfl) :
    DE X F (.Call (.Name x p) (ex :: exs) [] pos) (eMake F.PX con g) := by
  obtain ⟨t, pa, d⟩ := ha
  refine ⟨_, pe_makeE M G hr hg hm hb (fun σ => passAt tk σ) pa hdb he hpl, fun σ I H e ps P Q s h k => ?_⟩
  refine d σ I H e ps _ _ s h fun xs as e1 I1 H1 h1 hl s1 => ?_
  have z := ST.called s1 hl fo h1 k
  rw [hK] at z
  exact hM xs H1 Q _ z
end
/-- raise C(e) -/
def sRaise (PX : Addr → D → En → Prop) (C : Addr) (f : EvF) : SvF := fun e _ => f e fun r e1 => ∃ c e2, frz e1 r = some (c, e2) ∧ PX C c e2
section
variable {X : Cx} {F : Fr} {fI C : Addr} {k : Nat} {fd : FuncData} {pn : List Str} {x : Str} {p pos rpos : Pos} {ex : Expr} {f : EvF}
theorem ds_raise (hc : X.calm = true) (tk : Takes X F.W) (fo : FrOk F) (T : OexC X.K C) (iC : PySem.W.findIn X.K (.ref C) "__init__" = some (some (.ref fI))) (tI : PySem.W.typeIn X.K (.ref fI) = some (.type "function")) (no : PySem.W.findIn X.K (.ref C) "value" = some none)
    (F1 : FnOk X.prog X.w X.K X.mg X.base CX0 k fI fd pn (spErr X.K)) (hr : Room (k + 1) X.A) (hb : Binds X.K fd pn []) (hg : Gl X x) (hm : X.mg x = some (.ref C)) (ha : DE X F ex f)
    (hdb : (x == ("__debug__" : Str)) = false := by decide) (he : starEach [ex] X.env = (false, eval ex X.env) :: starEach [] X.env := by rfl) (hpl : (backTo pos (starEach [] X.env)).any (·.1) = false := by rfl) :
    DS X F (.Raise (some (.Call (.Name x p) [ex] [] pos)) none rpos) (sRaise F.PX C f) := by
  obtain ⟨t, pa, d⟩ := ha
  refine ⟨_, ps_raise hc tk (pmk_oex T iC tI F1 hr hb .nil pass0 hg hm (pa_cons pa pa_nil he) hdb he hpl), fun σ I H e ps dd D hp s h k => ?_⟩
  refine d σ I H e ps _ _ s h fun v r e1 I1 H1 h1 s1 => ?_
  obtain ⟨c, e2, hf, hx⟩ := h1
  obtain ⟨I2, _, s2⟩ := s1.frz hf
  have rx : Rep F.K I2 v c := ST.temp (qs := []) (t := .imm c) s2
  refine ⟨by show 1 ≤ 1000; decide, raise_val (H1 := H1) (v := v) (E := fun cls d H' => F.W cls d σ H') T no fun d' H' sm hd => ?_⟩
  have g : Grow I2 H1 I2 H' := ⟨Le.refl, fun b o q => sm b o q, fun b o q => sm b o (s2.sub b o q), fun b o q => .inl q⟩
  exact fo σ I2 H' e2 ps C c v d' (s2.weak.grow g) hx rx hd
end
/-! ### further draws -/
theorem Keep2.refl {p c : Addr} {H : Hp} : Keep2 p c H H := fun _ _ h _ _ => h
theorem Keep2.trans {p c : Addr} {H H1 H2 : Hp} (a : Keep2 p c H H1) (b : Keep2 p c H1 H2) : Keep2 p c H H2 := fun x o h h1 h2 => b x o (a x o h h1 h2) h1 h2
theorem Keep2.new {p c q : Addr} {H : Hp} {o : HO} (h : H q = none) : Keep2 p c H (upd H q o) := fun x u e _ _ => by
  rw [upd_ne (ne_of_none e h)]
  exact e
theorem HandAt.new {p c q : Addr} {H : Hp} {n : Nat} {o : HO} (hh : HandAt H p c n) (h : H q = none) : HandAt (upd H q o) p c n := by
  obtain ⟨cs, k, t, a, b, d, f, g, i⟩ := hh
  exact ⟨cs, k, t, by rw [upd_ne (ne_of_none a h)]; exact a, by rw [upd_ne (ne_of_none b h)]; exact b, d, f, g, i⟩
theorem HandAt.p {p c : Addr} {H : Hp} {n : Nat} (hh : HandAt H p c n) : ∃ xs, H p = some (.lst xs) := by
  obtain ⟨cs, k, t, a, _⟩ := hh
  exact ⟨_, a⟩
theorem HandAt.c {p c : Addr} {H : Hp} {n : Nat} (hh : HandAt H p c n) : ∃ xs, H c = some (.lst xs) := by
  obtain ⟨cs, k, t, _, a, _⟩ := hh
  exact ⟨_, a⟩
theorem Keep2.free {p c q : Addr} {H H' : Hp} {n : Nat} (kp : Keep2 p c H H') (hh : HandAt H' p c n) (h : H' q = none) : H q = none := by
  cases e : H q with
  | none => rfl
  | some o =>
    obtain ⟨_, e1⟩ := hh.p
    obtain ⟨_, e2⟩ := hh.c
    have h1 := (ne_of_none e1 h).symm
    have h2 := (ne_of_none e2 h).symm
    rw [kp q o e h1 h2] at h
    cases h
theorem Keep2.tup {p c q : Addr} {H H' : Hp} {n : Nat} {xs : List V} (kp : Keep2 p c H H') (hh : HandAt H p c n) (h : H q = some (.tup xs)) : H' q = some (.tup xs) := by
  obtain ⟨_, e1⟩ := hh.p
  obtain ⟨_, e2⟩ := hh.c
  exact kp q _ h (ne_of h e1 (fun z => nomatch z)) (ne_of h e2 (fun z => nomatch z))
def spBig : Sp := fun vs H Q _ => ∃ (p c : Addr) (n : Nat) (lim : Int), vs = [.ref p, .int lim] ∧ HandAt H p c n ∧ n < 990000000 ∧ 0 < lim ∧
  ∀ (r : Int) (H' : Hp), 0 ≤ r → r < lim → HandAt H' p c (n + 4) → Keep2 p c H H' → Q (.int r) H'
def spSizes : Sp := fun vs H Q _ => ∃ (p c : Addr) (n : Nat) (most : Int), vs = [.ref p, .int most] ∧ HandAt H p c n ∧ n < 900000000 ∧ 0 < most ∧ most < 1000000 ∧
  ∀ (a b : Int) (q : Addr) (H' : Hp), 0 < a → 0 < b → a * b ≤ most → H q = none → H' q = some (.tup [.int a, .int b]) → HandAt H' p c (n + 3) → Keep2 p c H H' → Q (.ref q) H'
/-- an inside point -/
def Ins (w h x y : Int) : Prop := 0 < x ∧ x < 2 * w ∧ 0 < y ∧ y < 2 * h ∧ (x + y) % 2 = 1
def spSpot : Sp := fun vs H Q _ => ∃ (p c : Addr) (n : Nat) (w h : Int), vs = [.ref p, .int w, .int h] ∧ HandAt H p c n ∧ n < 900000000 ∧ 0 < w ∧ 0 < h ∧ (1 < w ∨ 1 < h) ∧
  ∀ (x y : Int) (q : Addr) (H' : Hp), Ins w h x y → H q = none → H' q = some (.tup [.int x, .int y]) → HandAt H' p c (n + 9) → Keep2 p c H H' → Q (.ref q) H'
section
variable {P : Program} {w : World} {K : PySem.W.Frag} {mg : Str → Option Value} {base : Heap} {A : Ad}
theorem ok__law_big (T : Txt K mg A) : FnOk P w K mg base CX0 2 A.f__law_big A.d__law_big P__law_big spBig := by
  have G__law_take := ok__law_take (P := P) (w := w) (base := base) T
  refine T.F__law_big.ok sc__law_big (fun vs H Q E h => ?_) (fun cdv A' outer s H vs Q E hr h => ?_)
  · obtain ⟨p, c, n, lim, rfl, _⟩ := h
    rfl
  · obtain ⟨p, c, n, lim, rfl, hh, hn, hl0, kk⟩ := h
    refine ⟨_, (pss_cons (ps_set (i := 2) sc__law_big.nd rfl (Or.inl rfl) pe_int)
(pss_cons (ps_for PassesOwn.never rfl (pi_range1 (by rfl) T.n_range (pa_cons pe_int pa_nil)) (pg_name (i := 3) sc__law_big.nd rfl (Or.inl rfl))
(pss_one (ps_set (i := 2) sc__law_big.nd rfl (Or.inl rfl) (pe_op op_add (pe_op op_mul (pv 2) pe_int) (pe_call G__law_take (hr.mono (by first | decide | omega)) rfl T.g__law_take T.k__law_take T.b__law_take .nil pass0 (pa_cons (pv 0) (pa_cons pe_int pa_nil)))))))
(pss_one (ps_ret (pe_op op_mod (pe_callTy c_int (by rfl) T.n_int (by decide +kernel) (pa_cons (pv 2) pa_nil)) (pv 1)))))), ?_⟩
    walk_at "rs"
    refine ⟨4, rfl, by decide, by decide, for_range (n := 4) (fun i σ H1 => ∃ (num : Int) (v : Option V), σ = [some (.ref p), some (.int lim), some (.int num), v] ∧ HandAt H1 p c (n + i) ∧ Keep2 p c H H1)
      ⟨0, none, rfl, hh, Keep2.refl⟩ ?_ ?_⟩
    · rintro i σ H1 hi ⟨num, v, rfl, hh1, kp⟩
      walk_at "rs"
      refine ⟨p, c, n + i, _, rfl, hh1, by omega, by decide, by decide, fun r H2 r0 r1 hh2 kp2 => ?_⟩
      walk_at "rs"
      exact ⟨_, _, rfl, hh2, kp.trans kp2⟩
    · rintro σ H1 ⟨num, v, rfl, hh1, kp⟩
      walk_at "rs"
      exact kk _ _ (mod_rng hl0).1 (mod_rng hl0).2 hh1 kp
theorem ok__law_sizes (T : Txt K mg A) : FnOk P w K mg base CX0 2 A.f__law_sizes A.d__law_sizes P__law_sizes spSizes := by
  have G__law_take := ok__law_take (P := P) (w := w) (base := base) T
  refine T.F__law_sizes.ok sc__law_sizes (fun vs H Q E h => ?_) (fun cdv A' outer s H vs Q E hr h => ?_)
  · obtain ⟨p, c, n, most, rfl, _⟩ := h
    rfl
  · obtain ⟨p, c, n, most, rfl, hh, hn, hl0, hl1, kk⟩ := h
    refine ⟨_, (pss_cons (ps_set (i := 2) sc__law_sizes.nd rfl (Or.inl rfl) (pe_op op_add pe_int (pe_call G__law_take (hr.mono (by first | decide | omega)) rfl T.g__law_take T.k__law_take T.b__law_take .nil pass0 (pa_cons (pv 0) (pa_cons (pe_callB (c_min rfl) (by rfl) T.n_min (by decide +kernel) (pa_cons pe_int (pa_cons (pv 1) pa_nil))) pa_nil)))))
(pss_cons (ps_set (i := 3) sc__law_sizes.nd rfl (Or.inl rfl) (pe_op op_add pe_int (pe_call G__law_take (hr.mono (by first | decide | omega)) rfl T.g__law_take T.k__law_take T.b__law_take .nil pass0 (pa_cons (pv 0) (pa_cons (pe_op op_fdiv (pv 1) (pv 2)) pa_nil)))))
(pss_cons (ps_if (pt_cmpR op_eq (pe_call G__law_take (hr.mono (by first | decide | omega)) rfl T.g__law_take T.k__law_take T.b__law_take .nil pass0 (pa_cons (pv 0) (pa_cons pe_int pa_nil))) pe_int (nomark _))
(pss_one (ps_ret (pe_tup (pa_cons (pv 2) (pa_cons (pv 3) pa_nil)))))
pss_nil)
(pss_one (ps_ret (pe_tup (pa_cons (pv 3) (pa_cons (pv 2) pa_nil)))))))), ?_⟩
    walk_at "rs"
    refine ⟨p, c, n, _, rfl, hh, by omega, by split <;> omega, by split <;> omega, fun a H1 a0 a1 hh1 kp1 => ?_⟩
    have ha : 1 + a ≤ most := by split at a1 <;> omega
    have hd : 1 ≤ most / (1 + a) := Int.le_ediv_of_mul_le (by omega) (by omega)
    have hd2 : most / (1 + a) ≤ most := Int.ediv_le_self _ (by omega)
    have hd3 : (1 + a) * (most / (1 + a)) ≤ most := Int.mul_ediv_self_le (by omega)
    walk_at "rs"
    refine ⟨p, c, n + 1, _, rfl, hh1, by omega, by omega, by omega, fun b H2 b0 b1 hh2 kp2 => ?_⟩
    have hb : (1 + a) * (1 + b) ≤ most := Int.le_trans (Int.mul_le_mul_of_nonneg_left (by omega) (by omega)) hd3
    walk_at "rs"
    refine ⟨p, c, n + 2, _, rfl, hh2, by omega, by decide, by decide, fun r H3 r0 r1 hh3 kp3 => ?_⟩
    have kp := (kp1.trans kp2).trans kp3
    walk_at "rs"
    refine r_ite (fun _ => ?_) (fun _ => ?_)
    · walk_at "rs"
      intro q hq
      exact kk _ _ q _ (by omega) (by omega) hb (kp.free hh3 hq) upd_same (hh3.new hq) (kp.trans (Keep2.new hq))
    · walk_at "rs"
      intro q hq
      exact kk _ _ q _ (by omega) (by omega) (by rw [Int.mul_comm]; exact hb) (kp.free hh3 hq) upd_same (hh3.new hq) (kp.trans (Keep2.new hq))
theorem ok__law_spot (T : Txt K mg A) : FnOk P w K mg base CX0 3 A.f__law_spot A.d__law_spot P__law_spot spSpot := by
  have G__law_take := ok__law_take (P := P) (w := w) (base := base) T
  have G__law_big := ok__law_big (P := P) (w := w) (base := base) T
  refine T.F__law_spot.ok sc__law_spot (fun vs H Q E h => ?_) (fun cdv A' outer s H vs Q E hr h => ?_)
  · obtain ⟨p, c, n, w', h', rfl, _⟩ := h
    rfl
  · obtain ⟨p, c, n, w', h', rfl, hh, hn, hw, hh', hwh, kk⟩ := h
    refine ⟨_, (pss_cons (ps_set (i := 3) sc__law_spot.nd rfl (Or.inl rfl) (pe_and (pe_cmpR op_gt (pv 1) pe_int (nomark _)) (pe_one (pe_or (pe_cmpR op_eq (pv 2) pe_int (nomark _)) (pe_one (pe_cmpR op_eq (pe_call G__law_take (hr.mono (by first | decide | omega)) rfl T.g__law_take T.k__law_take T.b__law_take .nil pass0 (pa_cons (pv 0) (pa_cons pe_int pa_nil))) pe_int (nomark _)))))))
(pss_cons (ps_if (pt_val (pv 3))
(pss_one (ps_ret (pe_tup (pa_cons (pe_op op_add pe_int (pe_op op_mul pe_int (pe_call G__law_big (hr.mono (by first | decide | omega)) rfl T.g__law_big T.k__law_big T.b__law_big .nil pass0 (pa_cons (pv 0) (pa_cons (pe_op op_sub (pv 1) pe_int) pa_nil))))) (pa_cons (pe_op op_add pe_int (pe_op op_mul pe_int (pe_call G__law_big (hr.mono (by first | decide | omega)) rfl T.g__law_big T.k__law_big T.b__law_big .nil pass0 (pa_cons (pv 0) (pa_cons (pv 2) pa_nil))))) pa_nil)))))
pss_nil)
(pss_one (ps_ret (pe_tup (pa_cons (pe_op op_add pe_int (pe_op op_mul pe_int (pe_call G__law_big (hr.mono (by first | decide | omega)) rfl T.g__law_big T.k__law_big T.b__law_big .nil pass0 (pa_cons (pv 0) (pa_cons (pv 1) pa_nil))))) (pa_cons (pe_op op_add pe_int (pe_op op_mul pe_int (pe_call G__law_big (hr.mono (by first | decide | omega)) rfl T.g__law_big T.k__law_big T.b__law_big .nil pass0 (pa_cons (pv 0) (pa_cons (pe_op op_sub (pv 2) pe_int) pa_nil))))) pa_nil))))))), ?_⟩
    have fin : ∀ (x y : Int) (H1 : Hp) (m : Nat), Ins w' h' x y → HandAt H1 p c m → m ≤ n + 9 → Keep2 p c H H1 → ∀ q, H1 q = none → Q (.ref q) (upd H1 q (.tup [.int x, .int y])) := fun x y H1 m hi hh1 hm kp q hq =>
      kk x y q _ hi (kp.free hh1 hq) upd_same ((hh1.new hq).mono hm) (kp.trans (Keep2.new hq))
    walk_at "rs"
    refine r_ite (fun c1 => ?_) (fun c1 => ?_)
    · walk_at "rs"
      refine r_ite (fun c2 => ?_) (fun c2 => ?_)
      · walk_at "rs"
        refine ⟨p, c, n, _, rfl, hh, by omega, by omega, fun a H1 a0 a1 hh1 kp1 => ?_⟩
        walk_at "rs"
        refine ⟨p, c, n + 4, _, rfl, hh1, by omega, by omega, fun b H2 b0 b1 hh2 kp2 => ?_⟩
        walk_at "rs"
        exact fin _ _ _ _ ⟨by omega, by omega, by omega, by omega, by omega⟩ hh2 (by omega) (kp1.trans kp2)
      · have c3 : h' ≠ 1 := fun e => c2 (by rw [e])
        walk_at "rs"
        refine ⟨p, c, n, _, rfl, hh, by omega, by decide, by decide, fun r H0 r0 r1 hh0 kp0 => ?_⟩
        walk_at "rs"
        refine r_ite (fun c4 => ?_) (fun c4 => ?_)
        · walk_at "rs"
          refine ⟨p, c, n + 1, _, rfl, hh0, by omega, by omega, fun a H1 a0 a1 hh1 kp1 => ?_⟩
          walk_at "rs"
          refine ⟨p, c, n + 5, _, rfl, hh1, by omega, by omega, fun b H2 b0 b1 hh2 kp2 => ?_⟩
          walk_at "rs"
          exact fin _ _ _ _ ⟨by omega, by omega, by omega, by omega, by omega⟩ hh2 (by omega) ((kp0.trans kp1).trans kp2)
        · walk_at "rs"
          refine ⟨p, c, n + 1, _, rfl, hh0, by omega, by omega, fun a H1 a0 a1 hh1 kp1 => ?_⟩
          walk_at "rs"
          refine ⟨p, c, n + 5, _, rfl, hh1, by omega, by omega, fun b H2 b0 b1 hh2 kp2 => ?_⟩
          walk_at "rs"
          exact fin _ _ _ _ ⟨by omega, by omega, by omega, by omega, by omega⟩ hh2 (by omega) ((kp0.trans kp1).trans kp2)
    · walk_at "rs"
      refine ⟨p, c, n, _, rfl, hh, by omega, by omega, fun a H1 a0 a1 hh1 kp1 => ?_⟩
      walk_at "rs"
      refine ⟨p, c, n + 4, _, rfl, hh1, by omega, by omega, fun b H2 b0 b1 hh2 kp2 => ?_⟩
      walk_at "rs"
      exact fin _ _ _ _ ⟨by omega, by omega, by omega, by omega, by omega⟩ hh2 (by omega) (kp1.trans kp2)
end
/-! ### lists of tuples -/
abbrev TupsAt (H : Hp) (as : List Addr) (ds : List (List V)) : Prop := Paired (fun a xs => H a = some (.tup xs)) as ds
theorem TupsAt.keep {H H' : Hp} {as : List Addr} {ds : List (List V)} (t : TupsAt H as ds) (k : ∀ b xs, H b = some (.tup xs) → H' b = some (.tup xs)) : TupsAt H' as ds := Paired.mono (fun a xs h => k a xs h) t
theorem TupsAt.get {H : Hp} : ∀ {as : List Addr} {ds : List (List V)} {i : Nat} {x : V}, TupsAt H as ds → (as.map V.ref)[i]? = some x → ∃ a xs, x = .ref a ∧ as[i]? = some a ∧ ds[i]? = some xs ∧ H a = some (.tup xs)
  | _, _, i, x, .nil, e => by simp at e
  | _, _, 0, x, .cons h t, e => by
    simp at e
    exact ⟨_, _, e.symm, rfl, rfl, h⟩
  | _, _, i + 1, x, .cons h t, e => by
    obtain ⟨a, xs, e1, e2, e3, e4⟩ := TupsAt.get (i := i) (x := x) t (by simpa using e)
    exact ⟨a, xs, e1, by simpa using e2, by simpa using e3, e4⟩
theorem TupsAt.get2 {H : Hp} : ∀ {as : List Addr} {ds : List (List V)} {i : Nat} {xs : List V}, TupsAt H as ds → ds[i]? = some xs → ∃ a, (as.map V.ref)[i]? = some (.ref a) ∧ H a = some (.tup xs)
  | _, _, i, x, .nil, e => by simp at e
  | _, _, 0, x, .cons h t, e => by
    simp at e
    subst e
    exact ⟨_, rfl, h⟩
  | _, _, i + 1, x, .cons h t, e => by
    obtain ⟨a, e1, e4⟩ := TupsAt.get2 (i := i) (xs := x) t (by simpa using e)
    exact ⟨a, by simpa using e1, e4⟩
theorem Paired.takeD {α β : Type} {F : α → β → Prop} : ∀ {l₁ : List α} {l₂ : List β} (n : Nat), Paired F l₁ l₂ → Paired F (l₁.take n) (l₂.take n)
  | _, _, 0, _ => by simp; exact .nil
  | _, _, n + 1, .nil => .nil
  | _, _, n + 1, .cons h t => .cons h (Paired.takeD n t)
theorem Paired.dropD {α β : Type} {F : α → β → Prop} : ∀ {l₁ : List α} {l₂ : List β} (n : Nat), Paired F l₁ l₂ → Paired F (l₁.drop n) (l₂.drop n)
  | _, _, 0, h => h
  | _, _, n + 1, .nil => .nil
  | _, _, n + 1, .cons h t => Paired.dropD n t
theorem Paired.app {α β : Type} {F : α → β → Prop} : ∀ {l₁ m₁ : List α} {l₂ m₂ : List β}, Paired F l₁ l₂ → Paired F m₁ m₂ → Paired F (l₁ ++ m₁) (l₂ ++ m₂)
  | _, _, _, _, .nil, h => h
  | _, _, _, _, .cons h t, s => .cons h (Paired.app t s)
abbrev ptV (z : Int × Int) : List V := [.int z.1, .int z.2]
/-- a list of places at l -/
def PtsAt (H : Hp) (l : Addr) (ps : List (Int × Int)) : Prop := ∃ as, H l = some (.lst (as.map V.ref)) ∧ TupsAt H as (ps.map ptV)
theorem PtsAt.len {H : Hp} {l : Addr} {ps : List (Int × Int)} (h : PtsAt H l ps) : ∃ xs, H l = some (.lst xs) ∧ xs.length = ps.length := by
  obtain ⟨as, e, t⟩ := h
  exact ⟨_, e, by rw [List.length_map, Paired.length t, List.length_map]⟩
theorem PtsAt.snoc {H : Hp} {l q : Addr} {ps : List (Int × Int)} {x y : Int} {as : List Addr} (e : H l = some (.lst (as.map V.ref))) (t : TupsAt H as (ps.map ptV)) (hq : H q = none) :
    PtsAt (upd (upd H q (.tup [.int x, .int y])) l (.lst (as.map V.ref ++ [.ref q]))) l (ps ++ [(x, y)]) := by
  have hlq : l ≠ q := ne_of_none e hq
  have htl : ∀ b xs, H b = some (.tup xs) → b ≠ l := fun b xs h => ne_of h e (fun z => nomatch z)
  refine ⟨as ++ [q], by rw [upd_same, List.map_append]; rfl, ?_⟩
  rw [List.map_append]
  refine Paired.snoc (t.keep fun b xs h => ?_) ?_
  · rw [upd_ne (htl b xs h), upd_ne (ne_of_none h hq)]
    exact h
  · rw [upd_ne hlq.symm, upd_same]
theorem rangeC2 {lo hi : Int} (h0 : 0 ≤ lo) (h1 : lo ≤ 10) (h2 : 0 ≤ hi) (h3 : hi ≤ 1000000) : RgC lo hi 2 ((hi - lo + 1) / 2).toNat := by
  refine ⟨by decide, by decide, ?_, ?_⟩
  · unfold Builtin.Range.small Builtin.Range.rangeSize
    simp only [Builtin.Range.rangeFitsLong, Bool.and_eq_true, Bool.or_eq_true, decide_eq_true_eq, beq_iff_eq, show ((2 : Int) > 0) by decide, if_true]
    split <;> omega
  · unfold Builtin.Range.rangeSize
    simp only [show ((2 : Int) > 0) by decide, if_true]
    split <;> omega
def spPoints : Sp := fun vs H Q _ => ∃ (w h : Int), vs = [.int w, .int h] ∧ 0 < w ∧ 0 < h ∧ w * h ≤ 400 ∧
  ∀ (ps : List (Int × Int)) (l : Addr) (H' : Hp), (∀ z ∈ ps, Ins w h z.1 z.2) → ps.Nodup → (ps.length : Int) ≤ 2 * (w * h) → H l = none → PtsAt H' l ps → Same H H' → Q (.ref l) H'
theorem prod_le {w h b : Int} (hw : 0 < w) (hh : 0 < h) (hb : w * h ≤ b) : w ≤ b ∧ h ≤ b := by
  have e1 : w * 1 ≤ w * h := Int.mul_le_mul_of_nonneg_left (by omega) (by omega)
  have e2 : 1 * h ≤ w * h := Int.mul_le_mul_of_nonneg_right (by omega) (by omega)
  omega
section
variable {P : Program} {w : World} {K : PySem.W.Frag} {mg : Str → Option Value} {base : Heap} {A : Ad}
theorem ok__law_points (T : Txt K mg A) : FnOk P w K mg base CX0 1 A.f__law_points A.d__law_points P__law_points spPoints := by
  refine T.F__law_points.ok sc__law_points (fun vs H Q E h => ?_) (fun cdv A' outer s H vs Q E hr h => ?_)
  · obtain ⟨w', h', rfl, _⟩ := h
    rfl
  · obtain ⟨w', h', rfl, hw, hh, hb, kk⟩ := h
    obtain ⟨bw, bh⟩ := prod_le hw hh hb
    refine ⟨_, (pss_cons (ps_set (i := 2) sc__law_points.nd rfl (Or.inl rfl) (pe_lst pa_nil))
(pss_cons (ps_for PassesOwn.never rfl (pi_range2 (by rfl) T.n_range (pa_cons pe_int (pa_cons (pe_op op_mul pe_int (pv 1)) pa_nil))) (pg_name (i := 3) sc__law_points.nd rfl (Or.inl rfl))
(pss_one (ps_for PassesOwn.never rfl (pi_range3 (by rfl) T.n_range (pa_cons (pe_op op_add pe_int (pe_op op_mod (pv 3) pe_int)) (pa_cons (pe_op op_mul pe_int (pv 0)) (pa_cons pe_int pa_nil)))) (pg_name (i := 4) sc__law_points.nd rfl (Or.inl rfl))
(pss_one (ps_expr (pe_bm PySem.F.plainAttrs_list PySem.F.slot_list_append PySem.F.type_list_append mt_append (pv 2) (pa_cons (pe_tup (pa_cons (pv 4) (pa_cons (pv 3) pa_nil))) pa_nil)))))))
(pss_one (ps_ret (pv 2))))), ?_⟩
    walk_at "rs"
    intro l hl
    walk_at "rs"
    refine ⟨1, 2 * h', rfl, ⟨by omega, by omega, by omega, by omega⟩, for_range (lo := 1) (n := (2 * h' - 1).toNat) (fun i σ H1 => ∃ (ps : List (Int × Int)) (as : List Addr) (v1 v2 : Option V), σ = [some (.int w'), some (.int h'), some (.ref l), v1, v2] ∧
      H1 l = some (.lst (as.map V.ref)) ∧ TupsAt H1 as (ps.map ptV) ∧ (∀ z ∈ ps, Ins w' h' z.1 z.2 ∧ z.2 < 1 + (i : Int)) ∧ ps.Nodup ∧ (ps.length : Int) ≤ i * w' ∧ Same H H1) ?_ ?_ ?_⟩
    · exact ⟨[], [], none, none, rfl, upd_same, .nil, fun z hz => by simp at hz, List.nodup_nil, by simp, Same.new hl⟩
    · rintro i σ H1 hi ⟨ps, as, v1, v2, rfl, hl1, tt, hin, hnd, hlen, hs⟩
      have hi1 : (i : Int) * w' ≤ (2 * h' - 1) * w' := Int.mul_le_mul_of_nonneg_right (by omega) (by omega)
      have hi2 : (2 * h' - 1) * w' + w' = 2 * (w' * h') := by rw [Int.sub_mul, Int.one_mul, Int.mul_assoc, Int.mul_comm h' w']; omega
      have hi3 : ((i + 1 : Nat) : Int) * w' = i * w' + w' := by rw [Int.natCast_add, Int.add_mul]; simp
      have y0 : 0 ≤ (1 + (i : Int)) % 2 ∧ (1 + (i : Int)) % 2 < 2 := mod_rng (by decide)
      walk_at "rs"
      refine ⟨_, _, _, _, rfl, rangeC2 (by omega) (by omega) (by omega) (by omega), for_rangeC (lo := 1 + (1 + (i : Int)) % 2) (c := 2) (n := ((2 * w' - (1 + (1 + (i : Int)) % 2) + 1) / 2).toNat)
        (fun j σ H2 => ∃ (ps : List (Int × Int)) (as : List Addr) (v2 : Option V), σ = [some (.int w'), some (.int h'), some (.ref l), some (.int (1 + i)), v2] ∧
          H2 l = some (.lst (as.map V.ref)) ∧ TupsAt H2 as (ps.map ptV) ∧ (∀ z ∈ ps, Ins w' h' z.1 z.2 ∧ (z.2 < 1 + (i : Int) ∨ z.2 = 1 + (i : Int) ∧ z.1 < 1 + (1 + (i : Int)) % 2 + j * 2)) ∧ ps.Nodup ∧ (ps.length : Int) ≤ i * w' + j ∧ Same H H2) ?_ ?_ ?_⟩
      · exact ⟨ps, as, v2, rfl, hl1, tt, fun z hz => ⟨(hin z hz).1, .inl (hin z hz).2⟩, hnd, by simpa using hlen, hs⟩
      · rintro j σ H2 hj ⟨ps, as, v2, rfl, hl2, tt, hin, hnd, hlen, hs⟩
        have hlas : as.length = ps.length := by rw [Paired.length tt, List.length_map]
        walk_at "rs"
        intro q hq
        have sn := PtsAt.snoc (x := 1 + (1 + (i : Int)) % 2 + (j : Int) * 2) (y := 1 + (i : Int)) hl2 tt hq
        obtain ⟨as', e1, e2⟩ := sn
        have hlz : (as.map V.ref).length < 1000 := by rw [List.length_map]; omega
        walk_at "rs"
        refine ⟨ps ++ [(1 + (1 + (i : Int)) % 2 + (j : Int) * 2, 1 + (i : Int))], as', _, rfl, e1, e2, ?_, ?_, by simp; omega, (hs.trans (Same.new hq)).mut hl⟩
        · intro z hz
          rcases List.mem_append.mp hz with hz | hz
          · obtain ⟨h1, h2⟩ := hin z hz
            exact ⟨h1, by omega⟩
          · rw [List.mem_singleton] at hz
            subst hz
            exact ⟨⟨by omega, by omega, by omega, by omega, by omega⟩, .inr ⟨rfl, by simp; omega⟩⟩
        · rw [List.nodup_append]
          refine ⟨hnd, by simp, fun a ha b hb => ?_⟩
          rw [List.mem_singleton] at hb
          subst hb
          intro e
          subst e
          have h2 := (hin _ ha).2
          simp at h2
      · rintro σ H2 ⟨ps, as, v2, rfl, hl2, tt, hin, hnd, hlen, hs⟩
        exact ⟨ps, as, _, _, rfl, hl2, tt, fun z hz => ⟨(hin z hz).1, by have := (hin z hz).2; omega⟩, hnd, by omega, hs⟩
    · rintro σ H1 ⟨ps, as, v1, v2, rfl, hl1, tt, hin, hnd, hlen, hs⟩
      walk_at "rs"
      have hi1 : (((2 * h' - 1).toNat : Nat) : Int) * w' ≤ (2 * h') * w' := Int.mul_le_mul_of_nonneg_right (by omega) (by omega)
      refine kk ps l H1 (fun z hz => (hin z hz).1) hnd ?_ hl ⟨as, hl1, tt⟩ hs
      rw [Int.mul_assoc, Int.mul_comm h' w'] at hi1
      omega
end
/-! ### mirrors -/
abbrev Mir := Int × Int × Str
abbrev mV (m : Mir) : List V := [.int m.1, .int m.2.1, .str m.2.2]
abbrev mK (m : Mir) : Int × Int := (m.1, m.2.1)
def KindOk (k : Str) : Prop := k = ("-" : Str) ∨ k = ("|" : Str)
def MsAt (H : Hp) (l : Addr) (ms : List Mir) : Prop := ∃ as, H l = some (.lst (as.map V.ref)) ∧ TupsAt H as (ms.map mV)
/-- good mirrors of a board -/
structure GoodMs (w h : Int) (ms : List Mir) : Prop where
  ins : ∀ m ∈ ms, Ins w h m.1 m.2.1
  kind : ∀ m ∈ ms, KindOk m.2.2
  nd : (ms.map mK).Nodup
theorem ins_perm {α : Type} (xs : List α) (k : Nat) (y : α) : (xs.take k ++ [y] ++ xs.drop k).Perm (y :: xs) := by
  have e : xs = xs.take k ++ xs.drop k := (List.take_append_drop k xs).symm
  refine List.Perm.trans (List.Perm.append_right _ List.perm_append_comm) ?_
  show ([y] ++ xs.take k ++ xs.drop k).Perm (y :: xs)
  rw [List.append_assoc, ← e]
  exact List.Perm.refl _
theorem GoodMs.ins1 {w h : Int} {ms : List Mir} (g : GoodMs w h ms) {m : Mir} (k : Nat) (hi : Ins w h m.1 m.2.1) (hk : KindOk m.2.2) (hn : mK m ∉ ms.map mK) : GoodMs w h (ms.take k ++ [m] ++ ms.drop k) := by
  have pm := ins_perm ms k m
  refine ⟨fun z hz => ?_, fun z hz => ?_, ?_⟩
  · rcases List.mem_cons.mp (pm.mem_iff.mp hz) with e | hz
    · subst e; exact hi
    · exact g.ins z hz
  · rcases List.mem_cons.mp (pm.mem_iff.mp hz) with e | hz
    · subst e; exact hk
    · exact g.kind z hz
  · refine ((pm.map mK).nodup_iff).mpr ?_
    rw [List.map_cons]
    exact List.nodup_cons.mpr ⟨hn, g.nd⟩
theorem kind_at {r : Int} (h0 : 0 ≤ r) (h1 : r < 2) : ∃ k : Str, KindOk k ∧ atI [V.str "-", V.str "|"] r = some (V.str k) := by
  have e : r = 0 ∨ r = 1 := by omega
  rcases e with e | e
  · subst e; exact ⟨_, .inl rfl, rfl⟩
  · subst e; exact ⟨_, .inr rfl, rfl⟩
theorem Keep2.at_new {p c q : Addr} {H H' : Hp} {n : Nat} {o : HO} (kp : Keep2 p c (upd H q o) H') (hh : HandAt H p c n) (hq : H q = none) : H' q = some o := by
  obtain ⟨_, e1⟩ := hh.p
  obtain ⟨_, e2⟩ := hh.c
  exact kp q _ upd_same (ne_of_none e1 hq).symm (ne_of_none e2 hq).symm
theorem Keep2.tups {p c : Addr} {H H' : Hp} {n : Nat} {as : List Addr} {ds : List (List V)} (kp : Keep2 p c H H') (hh : HandAt H p c n) (t : TupsAt H as ds) : TupsAt H' as ds := t.keep fun _ _ h => kp.tup hh h
theorem TupsAt.new {H : Hp} {q : Addr} {o : HO} {as : List Addr} {ds : List (List V)} (t : TupsAt H as ds) (h : H q = none) : TupsAt (upd H q o) as ds := t.keep fun b xs e => by rw [upd_ne (ne_of_none e h)]; exact e
theorem TupsAt.mut {H : Hp} {l : Addr} {xs ys : List V} {as : List Addr} {ds : List (List V)} (t : TupsAt H as ds) (h : H l = some (.lst xs)) : TupsAt (upd H l (.lst ys)) as ds :=
  t.keep fun b zs e => by rw [upd_ne (ne_of e h (fun z => nomatch z))]; exact e
theorem TupsAt.ins {H : Hp} {as : List Addr} {ms : List Mir} {q : Addr} {m : Mir} (t : TupsAt H as (ms.map mV)) (hq : H q = some (.tup (mV m))) (k : Nat) : TupsAt H (as.take k ++ [q] ++ as.drop k) ((ms.take k ++ [m] ++ ms.drop k).map mV) := by
  rw [List.map_append, List.map_append, List.map_take, List.map_drop]
  exact Paired.app (Paired.app (Paired.takeD k t) (.cons hq .nil)) (Paired.dropD k t)
theorem map_ins (as : List Addr) (q : Addr) (k : Nat) : (as.map V.ref).take k ++ [V.ref q] ++ (as.map V.ref).drop k = (as.take k ++ [q] ++ as.drop k).map V.ref := by
  rw [List.map_append, List.map_append, List.map_take, List.map_drop]; rfl
theorem HandAt.same {H H' : Hp} {p c : Addr} {n : Nat} (hh : HandAt H p c n) (e : Same H H') : HandAt H' p c n := by
  obtain ⟨cs, k, t, a, b, d⟩ := hh
  exact ⟨cs, k, t, e _ _ a, e _ _ b, d⟩
theorem Keep2.same {H H' : Hp} {p c : Addr} (e : Same H H') : Keep2 p c H H' := fun b o h _ _ => e b o h
theorem HandAt.mut {H : Hp} {p c l : Addr} {n : Nat} {o : HO} (hh : HandAt H p c n) (h1 : l ≠ p) (h2 : l ≠ c) : HandAt (upd H l o) p c n := by
  obtain ⟨cs, k, t, a, b, d⟩ := hh
  exact ⟨cs, k, t, by rw [upd_ne h1.symm]; exact a, by rw [upd_ne h2.symm]; exact b, d⟩
theorem HandAt.ne {H : Hp} {p c l : Addr} {n : Nat} (hh : HandAt H p c n) (hl : H l = none) : l ≠ p ∧ l ≠ c := by
  obtain ⟨_, e1⟩ := hh.p
  obtain ⟨_, e2⟩ := hh.c
  exact ⟨(ne_of_none e1 hl).symm, (ne_of_none e2 hl).symm⟩
/-- H' is H but for the hand and things new since H0 -/
theorem Keep2.mut {H H' : Hp} {p c l : Addr} {o : HO} (kp : Keep2 p c H H') (hl : H l = none) : Keep2 p c H (upd H' l o) := fun b u h h1 h2 => by
  rw [upd_ne (ne_of_none h hl)]
  exact kp b u h h1 h2
def spMirrors : Sp := fun vs H Q _ => ∃ (p c : Addr) (n : Nat) (w h : Int), vs = [.ref p, .int w, .int h] ∧ HandAt H p c n ∧ n < 900000000 ∧ 0 < w ∧ 0 < h ∧ w * h ≤ 100 ∧
  ∀ (ms : List Mir) (l : Addr) (H' : Hp), GoodMs w h ms → ms.length ≤ 200 → H l = none → MsAt H' l ms → HandAt H' p c (n + 1000) → Keep2 p c H H' → Q (.ref l) H'
section
variable {P : Program} {w : World} {K : PySem.W.Frag} {mg : Str → Option Value} {base : Heap} {A : Ad}
theorem ok__law_mirrors (T : Txt K mg A) : FnOk P w K mg base CX0 2 A.f__law_mirrors A.d__law_mirrors P__law_mirrors spMirrors := by
  have G__law_take := ok__law_take (P := P) (w := w) (base := base) T
  have G__law_points := ok__law_points (P := P) (w := w) (base := base) T
  refine T.F__law_mirrors.ok sc__law_mirrors (fun vs H Q E h => ?_) (fun cdv A' outer s H vs Q E hr h => ?_)
  · obtain ⟨p, c, n, w', h', rfl, _⟩ := h
    rfl
  · obtain ⟨p, c, n, w', h', rfl, hh, hn, hw, hh', hb, kk⟩ := h
    refine ⟨_, (pss_cons (ps_set (i := 3) sc__law_mirrors.nd rfl (Or.inl rfl) (pe_call G__law_take (hr.mono (by first | decide | omega)) rfl T.g__law_take T.k__law_take T.b__law_take .nil pass0 (pa_cons (pv 0) (pa_cons pe_int pa_nil))))
(pss_cons (ps_set (i := 4) sc__law_mirrors.nd rfl (Or.inl rfl) (pe_lst pa_nil))
(pss_cons (ps_for PassesOwn.never rfl (pi_list (pe_call G__law_points (hr.mono (by first | decide | omega)) rfl T.g__law_points T.k__law_points T.b__law_points .nil pass0 (pa_cons (pv 1) (pa_cons (pv 2) pa_nil)))) (pg_tup rfl (pgs_cons (pg_name (i := 5) sc__law_mirrors.nd rfl (Or.inl rfl)) (pgs_cons (pg_name (i := 6) sc__law_mirrors.nd rfl (Or.inl rfl)) pgs_nil)))
(pss_one (ps_if (pt_cmpR op_lt (pe_call G__law_take (hr.mono (by first | decide | omega)) rfl T.g__law_take T.k__law_take T.b__law_take .nil pass0 (pa_cons (pv 0) (pa_cons pe_int pa_nil))) (pv 3) (nomark _))
(pss_cons (ps_set (i := 7) sc__law_mirrors.nd rfl (Or.inl rfl) (pe_ix ix_list (pe_lst (pa_cons pe_str (pa_cons pe_str pa_nil))) (pe_call G__law_take (hr.mono (by first | decide | omega)) rfl T.g__law_take T.k__law_take T.b__law_take .nil pass0 (pa_cons (pv 0) (pa_cons pe_int pa_nil))) (fun _ _ => rfl)))
(pss_one (ps_expr (pe_bm PySem.F.plainAttrs_list PySem.F.slot_list_insert PySem.F.type_list_insert m_insert (pv 4) (pa_cons (pe_call G__law_take (hr.mono (by first | decide | omega)) rfl T.g__law_take T.k__law_take T.b__law_take .nil pass0 (pa_cons (pv 0) (pa_cons (pe_op op_add (pe_callB c_len (by rfl) T.n_len (by decide +kernel) (pa_cons (pv 4) pa_nil)) pe_int) pa_nil))) (pa_cons (pe_tup (pa_cons (pv 5) (pa_cons (pv 6) (pa_cons (pv 7) pa_nil)))) pa_nil))))))
pss_nil)))
(pss_one (ps_ret (pv 4)))))), ?_⟩
    walk_at "rs"
    refine ⟨p, c, n, _, rfl, hh, by omega, by decide, by decide, fun sh H1 s0 s1 hh1 kp1 => ?_⟩
    walk_at "rs"
    intro l hl
    have hl0 : H l = none := kp1.free hh1 hl
    walk_at "rs"
    refine ⟨w', h', rfl, hw, hh', by omega, fun ps lp H2 hps hnd hlen hlp pa sm => ?_⟩
    obtain ⟨asp, ep, tp⟩ := pa
    have hh2 : HandAt H2 p c (n + 1) := (hh1.new hl).same sm
    have hl2 : H2 l = some (.lst []) := sm l _ upd_same
    have hlpl : l ≠ lp := ne_of_none (H := upd H1 l (.lst [])) upd_same hlp
    obtain ⟨nlp, nlc⟩ := hh1.ne hl
    obtain ⟨nqp, nqc⟩ := (hh1.new (o := .lst []) hl).ne hlp
    have kp2 : Keep2 p c H H2 := (kp1.trans (Keep2.new hl)).trans (Keep2.same sm)
    have hlen2 : ps.length ≤ 200 := by omega
    have hal : asp.length = ps.length := by rw [Paired.length tp, List.length_map]
    refine ⟨lp, rfl, ⟨_, SqL.of ep⟩, for_list (K := K) (a := lp) (xs := asp.map V.ref) (fun i σ H3 => ∃ (ms : List Mir) (as : List Addr) (v1 v2 v3 : Option V), σ = [some (.ref p), some (.int w'), some (.int h'), some (.int sh), some (.ref l), v1, v2, v3] ∧
      HandAt H3 p c (n + 1 + 3 * i) ∧ H3 l = some (.lst (as.map V.ref)) ∧ TupsAt H3 as (ms.map mV) ∧ H3 lp = some (.lst (asp.map V.ref)) ∧ TupsAt H3 asp (ps.map ptV) ∧ GoodMs w' h' ms ∧ (∀ m ∈ ms, mK m ∈ ps.take i) ∧ ms.length ≤ i ∧ Keep2 p c H H3) ?_ ?_ ?_ ?_⟩
    · exact ⟨[], [], none, none, none, rfl, hh2, hl2, .nil, ep, tp, ⟨fun _ h => by simp at h, fun _ h => by simp at h, List.nodup_nil⟩, fun _ h => by simp at h, Nat.le_refl _, kp2⟩
    · rintro i σ H3 _ ⟨ms, as, v1, v2, v3, rfl, _, _, _, e, _⟩
      exact SqL.of e
    · rintro i x σ H3 hi ⟨ms, as, v1, v2, v3, rfl, hh3, hl3, t3, ep3, tp3, gd, hsub, hml, kp3⟩
      have hil : i < asp.length := by
        have := (List.getElem?_eq_some_iff.mp hi).1
        simpa using this
      obtain ⟨a, xs, rfl, ha, hx, hta⟩ := tp3.get hi
      obtain ⟨z, hz, rfl⟩ : ∃ z, ps[i]? = some z ∧ xs = ptV z := by
        rw [List.getElem?_map] at hx
        cases e : ps[i]? with
        | none => rw [e] at hx; cases hx
        | some z => rw [e] at hx; exact ⟨z, rfl, (Option.some.inj hx).symm⟩
      have hlas : (as.map V.ref).length = ms.length := by rw [List.length_map, Paired.length t3, List.length_map]
      have tk : ps.take (i + 1) = ps.take i ++ [z] := by
        rw [List.take_add_one, hz]; rfl
      have hznot : z ∉ ps.take i := by
        have h2 : (ps.take (i + 1)).Nodup := hnd.sublist (List.take_sublist _ _)
        rw [tk, List.nodup_append] at h2
        intro hm
        exact h2.2.2 z hm z (by simp) rfl
      have hins : Ins w' h' z.1 z.2 := hps z (List.mem_of_getElem? hz)
      walk_at "rs"
      refine ⟨p, c, n + 1 + 3 * i, _, rfl, hh3, by omega, by decide, by decide, fun r H4 r0 r1 hh4 kp4 => ?_⟩
      have hl4 := kp4 l _ hl3 nlp nlc
      have ep4 := kp4 lp _ ep3 nqp nqc
      have t4 := kp4.tups hh3 t3
      have tp4 := kp4.tups hh3 tp3
      walk_at "rs"
      refine r_ite (fun _ => ?_) (fun _ => ?_)
      · walk_at "rs"
        intro q hq
        walk_at "rs"
        refine ⟨p, c, n + 1 + 3 * i + 1, _, rfl, hh4.new hq, by omega, by decide, by decide, fun r2 H5 r20 r21 hh5 kp5 => ?_⟩
        obtain ⟨kd, hkd, eat⟩ := kind_at r20 r21
        have hq5 := kp5.at_new hh4 hq
        have kp45 : Keep2 p c H4 H5 := (Keep2.new hq).trans kp5
        have hl5 := kp45 l _ hl4 nlp nlc
        have ep5 := kp45 lp _ ep4 nqp nqc
        have t5 := kp45.tups hh4 t4
        have tp5 := kp45.tups hh4 tp4
        walk_at "rs"
        refine ⟨p, c, n + 1 + 3 * i + 2, _, rfl, hh5, by omega, by omega, by omega, fun r3 H6 r30 r31 hh6 kp6 => ?_⟩
        have hl6 := kp6 l _ hl5 nlp nlc
        have ep6 := kp6 lp _ ep5 nqp nqc
        have t6 := kp6.tups hh5 t5
        have tp6 := kp6.tups hh5 tp5
        walk_at "rs"
        intro u hu
        have hlz : (as.map V.ref).length < 1000 := by omega
        walk_at "rs"
        have km : mK (z.1, z.2, kd) ∉ ms.map mK := fun hm => by
          obtain ⟨m, hm1, hm2⟩ := List.mem_map.mp hm
          have h3 := hsub m hm1
          rw [hm2] at h3
          exact hznot h3
        have hul : u ≠ l := (ne_of_none hl6 hu).symm
        refine ⟨ms.take r3.toNat ++ [(z.1, z.2, kd)] ++ ms.drop r3.toNat, as.take r3.toNat ++ [u] ++ as.drop r3.toNat, _, _, _, rfl, ?_, ?_, ?_, ?_, ?_, gd.ins1 _ hins hkd km, ?_, ?_, ?_⟩
        · exact ((hh6.new hu).mut nlp nlc).mono (by omega)
        · rw [upd_same, map_ins]
        · refine TupsAt.mut (xs := as.map V.ref) ?_ (by rw [upd_ne hul.symm]; exact hl6)
          exact TupsAt.ins (m := (z.1, z.2, kd)) (t6.new hu) upd_same _
        · rw [upd_ne hlpl.symm, upd_ne (ne_of_none ep6 hu)]
          exact ep6
        · exact TupsAt.mut (xs := as.map V.ref) (tp6.new hu) (by rw [upd_ne hul.symm]; exact hl6)
        · intro m hm
          rw [tk]
          rcases List.mem_cons.mp ((ins_perm ms r3.toNat (z.1, z.2, kd)).mem_iff.mp hm) with e | hm
          · subst e
            simp
          · exact List.mem_append_left _ (hsub m hm)
        · have := (ins_perm ms r3.toNat (z.1, z.2, kd)).length_eq
          rw [this, List.length_cons]
          omega
        · exact Keep2.mut ((((kp3.trans kp4).trans kp45).trans kp6).trans (Keep2.new hu)) hl0
      · walk_at "rs"
        refine ⟨ms, as, _, _, _, rfl, hh4.mono (by omega), hl4, t4, ep4, tp4, gd, fun m hm => ?_, by omega, kp3.trans kp4⟩
        rw [tk]
        exact List.mem_append_left _ (hsub m hm)
    · rintro σ H3 ⟨ms, as, v1, v2, v3, rfl, hh3, hl3, t3, ep3, tp3, gd, hsub, hml, kp3⟩
      rw [List.length_map] at hh3 hml
      walk_at "rs"
      exact kk ms l H3 gd (by omega) hl0 ⟨as, hl3, t3⟩ (hh3.mono (by omega)) kp3
end
/-! ### sorted(list of mirrors) -/
def mKeyL (m : Mir) : List (Int ⊕ List Nat) := [.inl m.1, .inl m.2.1, .inr m.2.2.cps.toList]
def Mle (a b : Mir) : Prop := (listOrd itemOrd).kle (mKeyL a) (mKeyL b)
theorem mKeyL_inj {a b : Mir} (e : mKeyL a = mKeyL b) : a = b := by
  obtain ⟨x, y, k⟩ := a
  obtain ⟨x', y', k'⟩ := b
  unfold mKeyL at e
  injection e with e1 e
  injection e with e2 e
  injection e with e3 e
  injection e1 with e1
  injection e2 with e2
  injection e3 with e3
  have e4 : k = k' := by
    obtain ⟨c⟩ := k
    obtain ⟨c'⟩ := k'
    have e5 : c.toList = c'.toList := e3
    rw [Array.ext' e5]
  dsimp only at e1 e2
  subst e1 e2 e4
  rfl
theorem Mle.anti {a b : Mir} (h1 : Mle a b) (h2 : Mle b a) : a = b := mKeyL_inj (KeyOrd.kle_antisymm h1 h2)
/-- what is sorted is one -/
theorem sorted_one {ms ns : List Mir} (p : ms.Perm ns) (h1 : ms.Pairwise Mle) (h2 : ns.Pairwise Mle) : ms = ns := p.eq_of_pairwise (fun _ _ _ _ a b => Mle.anti a b) h1 h2
def rdM (H : Hp) (a : Addr) : Mir := match H a with
  | some (.tup [.int x, .int y, .str k]) => (x, y, k)
  | _ => (0, 0, "")
theorem rdM_of {H : Hp} {a : Addr} {m : Mir} (h : H a = some (.tup (mV m))) : rdM H a = m := by
  unfold rdM
  rw [h]
theorem tups_rd {H : Hp} : ∀ {as : List Addr} {ms : List Mir}, TupsAt H as (ms.map mV) → ms = as.map (rdM H) ∧ ∀ a ∈ as, H a = some (.tup (mV (rdM H a)))
  | [], [], _ => ⟨rfl, fun a h => by simp at h⟩
  | a :: as, m :: ms, t => by
    rw [List.map_cons] at t
    cases t with
    | cons h t =>
      obtain ⟨e1, e2⟩ := tups_rd t
      refine ⟨by rw [List.map_cons, rdM_of h, ← e1], fun b hb => ?_⟩
      rcases List.mem_cons.mp hb with e | hb
      · subst e
        rw [rdM_of h]
        exact h
      · exact e2 b hb
  | [], m :: ms, t => by rw [List.map_cons] at t; cases t
  | a :: as, [], t => by cases t
theorem tups_mk {H : Hp} : ∀ {as : List Addr}, (∀ a ∈ as, H a = some (.tup (mV (rdM H a)))) → TupsAt H as ((as.map (rdM H)).map mV)
  | [], _ => .nil
  | a :: as, h => .cons (h a (by simp)) (tups_mk fun b hb => h b (by simp [hb]))
def shM : Nat → Bool := fun i => i == 2
theorem refs_of : ∀ {as : List Addr} {us : List Value}, Vals (as.map V.ref) us → us = as.map Value.ref
  | [], _, r => by cases r; rfl
  | a :: as, _, r => by
    rw [List.map_cons] at r
    cases r with
    | cons h t =>
      cases h
      rw [refs_of t]
      rfl
theorem refs_vals : ∀ as : List Addr, Vals (as.map V.ref) (as.map Value.ref)
  | [] => .nil
  | a :: as => .cons (show RelV (.ref a) (.ref a) from rfl) (refs_vals as)
def unR : Value → Addr
  | .ref a => a
  | _ => 0
theorem unR_map (as : List Addr) : (as.map Value.ref).map unR = as := by
  induction as with
  | nil => rfl
  | cons a as ih => rw [List.map_cons, List.map_cons, ih]; rfl
theorem refs_back {us : List Value} {as : List Addr} (p : us.Perm (as.map Value.ref)) : ∃ as' : List Addr, us = as'.map Value.ref ∧ as'.Perm as := by
  refine ⟨us.map unR, ?_, ?_⟩
  · have h : ∀ u ∈ us, Value.ref (unR u) = u := fun u hu => by
      obtain ⟨a, _, rfl⟩ := List.mem_map.mp (p.mem_iff.mp hu)
      rfl
    rw [List.map_map]
    have e : us.map (Value.ref ∘ unR) = us.map id := List.map_congr_left fun u hu => h u hu
    rw [e, List.map_id]
  · have q := p.map unR
    rw [unR_map] at q
    exact q
section
variable {X : Cx} {pins : List (Addr × Obj)} {σ : L2.St} {H : Hp} {s : Shared}
theorem tup_raw (I : Inv X pins σ H s) {a : Addr} {m : Mir} (h : H a = some (.tup (mV m))) : G.tupKeyC s.heap shM (.ref a) = some (mKeyL m) ∧ ∃ f, TupOf s.heap shM (.ref a) f := by
  obtain ⟨its, rv, ⟨o, ho, hc, n, hd⟩, _⟩ := I.tuple (SqT.of h)
  cases rv with
  | cons r1 rv =>
    cases rv with
    | cons r2 rv =>
      cases rv with
      | cons r3 rv =>
        cases rv
        obtain ⟨t1, rfl⟩ := r1
        obtain ⟨t2, rfl⟩ := r2
        obtain ⟨t3, rfl⟩ := r3
        constructor
        · have e1 : G.isTupObj s.heap (.ref a) = true := by simp [G.isTupObj, ho, hc]
          unfold G.tupKeyC
          rw [if_pos e1]
          simp only [tupKey, ho, hd]
          rfl
        · exact ⟨_, a, o, _, n, rfl, ho, hc, hd, rfl, fun _ => ⟨_, _, rfl⟩, fun e => absurd e (by decide)⟩
theorem tups_raw (I : Inv X pins σ H s) : ∀ {as : List Addr}, (∀ a ∈ as, H a = some (.tup (mV (rdM H a)))) → ∃ fs, TupsOf s.heap shM (as.map Value.ref) fs
  | [], _ => ⟨[], .nil⟩
  | a :: as, h => by
    obtain ⟨fs, t⟩ := tups_raw I (as := as) fun b hb => h b (by simp [hb])
    obtain ⟨_, f, hf⟩ := tup_raw I (h a (by simp))
    exact ⟨f :: fs, .cons hf t⟩
theorem snd_perm {vs : List Value} {arr : Array Keyed} (p : arr.Perm (pairsOf vs)) : (arr.toList.map Prod.snd).Perm vs := by
  have e := (Array.perm_iff_toList_perm.mp p).map Prod.snd
  rw [pairsOf_toList, List.map_snd_zip (Nat.le_refl _)] at e
  exact e
theorem snd_sorted {h : Heap} {vs : List Value} {arr : Array Keyed} (p : arr.Perm (pairsOf vs)) (hs : SortedToK (G.tupKindC h shM) arr (pairsOf vs).size) :
    (arr.toList.map Prod.snd).Pairwise fun u v => (listOrd itemOrd).kle ((G.tupKeyC h shM u).getD []) ((G.tupKeyC h shM v).getD []) := by
  have m : ∀ q ∈ arr.toList, q.1 = q.2 := fun q hq => by
    have hq' := (Array.perm_iff_toList_perm.mp p).mem_iff.mp hq
    rw [pairsOf_toList] at hq'
    exact (mem_zip_self hq').1
  have hsz : arr.toList.length = (pairsOf vs).size := by
    rw [(Array.perm_iff_toList_perm.mp p).length_eq, Array.length_toList]
  rw [List.pairwise_iff_getElem]
  intro i j hi hj hij
  rw [List.length_map] at hi hj
  have z := hs i j (by omega) (by omega)
  have ka : ∀ k (hk : k < arr.toList.length), KK (G.tupKindC h shM) arr k = (G.tupKeyC h shM (arr.toList[k]).2).getD [] := fun k hk => by
    have e : arr[k]? = some (arr.toList[k]) := by rw [← Array.getElem?_toList]; exact List.getElem?_eq_getElem hk
    unfold KK
    rw [e]
    show (G.tupKeyC h shM (arr.toList[k]).1).getD [] = _
    rw [m _ (List.getElem_mem hk)]
  rw [ka i hi, ka j hj] at z
  rw [List.getElem_map, List.getElem_map]
  exact z
def rSortM : List V → Hp → VK → Prop := fun vs H Q => ∃ (l : Addr) (ms : List Mir), vs = [.ref l] ∧ MsAt H l ms ∧
  ∀ (ns : List Mir) (p : Addr) (H' : Hp), ns.Perm ms → ns.Pairwise Mle → H p = none → MsAt H' p ns → Same H H' → Q (.ref p) H'
theorem c_sortM : CallR X (.builtin "sorted") rSortM := by
  intro pins s σ H vs us Q I r h
  obtain ⟨l, ms, rfl, ⟨as, hl, tt⟩, q⟩ := h
  obtain ⟨hm, ha⟩ := tups_rd tt
  obtain ⟨its, rv, pl, hz⟩ := I.list (SqL.of hl)
  obtain rfl := refs_of rv
  obtain ⟨fs, tf⟩ := tups_raw I ha
  rw [Vals.ref1 r]
  refine G.sorted_tups pl.isList tf (fun v hv => ?_) (by rw [List.length_map]; rw [List.length_map] at hz; exact hz) fun st hp hs _ => ?_
  · obtain ⟨a, m, rfl⟩ := List.mem_map.mp hv
    exact ⟨_, (tup_raw I (ha a m)).1⟩
  · have p1 := snd_perm hp
    have p2 := snd_sorted hp hs
    obtain ⟨as', e1, p3⟩ := refs_back p1
    rw [e1] at p2
    obtain ⟨ep, he⟩ := PyProof.Rows.sortedAll_at s.heap (as.map Value.ref) ((arrOf st).map (·.2))
    have e2 : ((arrOf st).map (·.2)).toList = as'.map Value.ref := by rw [Array.toList_map]; exact e1
    have ha' : ∀ a ∈ as', H a = some (.tup (mV (rdM H a))) := fun a m => ha a (p3.mem_iff.mp m)
    have hfr : H (s.heap.objs.size + 1) = none := I.hok.fresh (Nat.le_succ _)
    have hlen : (as'.map V.ref).length ≤ sizeLine := by
      rw [List.length_map, p3.length_eq]
      rw [List.length_map] at hz
      exact hz
    generalize (arrOf st).map (·.2) = out at e2 he ⊢
    refine ⟨.ref _, upd H (s.heap.objs.size + 1) (.lst (as'.map V.ref)), I.laid (t' := s.toks) (fun _ _ => PyProof.Rows.sortedAll_old) (Nat.le_succ _) ⟨hlen, out.toList, ep, by rw [e2]; exact refs_vals as', he⟩, rfl, ?_⟩
    refine q (as'.map (rdM H)) _ _ (by rw [hm]; exact p3.map _) ?_ hfr ⟨as', upd_same, (tups_mk ha').new hfr⟩ (Same.new hfr)
    rw [List.pairwise_map]
    rw [List.pairwise_map] at p2
    refine List.Pairwise.imp_of_mem (fun {a b} ma mb z => ?_) p2
    rw [(tup_raw I (ha' a ma)).1, (tup_raw I (ha' b mb)).1] at z
    exact z
end
/-! ### len of an own object -/
section
variable {X : Cx} {CX : CXT} {k : Nat} {C g : Addr} {fd : FuncData} {ps : List Str} {sp : Sp}
def rLenO (C : Addr) (sp : Sp) : List V → Hp → VK → Prop := fun xs H Q => ∃ a dx fs, xs = [.ref a] ∧ H a = some (.ins C dx fs) ∧ sp [.ref a] H (fun v H' => ∃ n : Int, v = .int n ∧ 0 ≤ n ∧ n < 2 ^ 63 ∧ Q (.int n) H') fun _ _ _ => False
theorem c_lenO (F : FnOk X.prog X.w X.K X.mg X.base CX k g fd ps sp) (hr : Room (k + 1) X.A) (hm : Meth X.K C "__len__" g) (hb : Binds X.K fd ps []) (hx : Passes CX X.nox fun _ _ _ => False) : CallR X (.builtin "len") (rLenO C sp) := by
  intro pins s σ H xs us Q I r h
  obtain ⟨a, dx, fs, rfl, ea, h⟩ := h
  rw [Vals.ref1 r]
  obtain ⟨mA, O, _, _, _, _⟩ := ins_get I.hok ea
  obtain ⟨od, J, _⟩ := O.look
  have hl : ([Value.ref a] ++ []).length = ps.length := by
    rw [← F.len _ _ _ _ h]
    rfl
  refine Calls.call_function_entry kind_len plain_len entry_len (args_len1 _) ?_
  unfold Builtin.«len»
  refine wpAny_bind (m := oneArg "len" _) ?_
  refine wpAny_pure ?_
  refine wpAny_bind (m := callSpecial? (.ref a) (Str.ofString "__len__")) ?_
  refine PySem.W.special_fn I.kIn J hm.at_ (beq_iff_eq.mp hm.fn) ?_
  refine wpAny_call ?_
  refine codeAny_mono (F.run X.A.in1 X.stack s H ⟨[Value.ref a], []⟩ ([Value.ref a] ++ []) [V.ref a] _ _ hr.in1 I.env0.in1 (hb _ [Value.ref a] I.kIn hl) (.cons (show RelV (.ref a) (.ref a) from rfl) .nil) h) fun r s' hq => ?_
  cases r with
  | error er => exact False.elim (hx pins σ H s er s' (I.wish _) hq)
  | ok fl =>
    cases fl with
    | ret u =>
      obtain ⟨v, H', I3, rv, n, rfl, h0, h1, q⟩ := I.after hq
      obtain ⟨t, rfl⟩ := rv
      refine wpAny_bind ?_
      refine wpAny_holding ?_
      refine wpAny_pure ?_
      refine wpAny_bind ?_
      refine wpAny_letGo ?_
      show wpAny _ _ (if n < 0 then _ else _) _ _ _
      rw [if_neg (by omega)]
      show wpAny _ _ (if n ≥ 2 ^ 63 then _ else _) _ _ _
      rw [if_neg (by omega)]
      refine wpAny_bind ?_
      refine wpAny_mkInt ?_
      refine wpAny_pure ⟨_, rfl, ?_⟩
      exact ⟨.int n, H', I3.tok _, ⟨_, rfl⟩, q⟩
    | next => exact False.elim hq
    | brk => exact False.elim hq
    | cont => exact False.elim hq
end
/-! ### == and + of own objects -/
section
variable {X : Cx} {CX : CXT} {k : Nat} {C g : Addr} {fd : FuncData} {ps : List Str} {sp : Sp} {E : XK}
def rOwn2 (C : Addr) (sp : Sp) (E : XK) : R2 := fun x y H Q => ∃ a b dx dy fs gs, x = .ref a ∧ y = .ref b ∧ H a = some (.ins C dx fs) ∧ H b = some (.ins C dy gs) ∧ sp [.ref a, .ref b] H Q E
theorem back_of {pins : List (Addr × Obj)} {σ : L2.St} {Q : VK} {u : Value} {s : Shared} (h : EP X pins σ Q u s) : PySem.W.CmpBack (EP X pins σ Q) u s := by
  obtain ⟨v, H, I, r, q⟩ := h
  cases u with
  | notImplemented => cases v <;> first | (obtain ⟨_, r⟩ := r; cases r; done) | cases r
  | _ => exact ⟨v, H, I, r, q⟩
theorem o_eqOwn (F : FnOk X.prog X.w X.K X.mg X.base CX k g fd ps sp) (hr : Room k X.A) (hm : Meth X.K C "__eq__" g) (hb : Binds X.K fd ps []) (hx : Passes CX X E) : OpR X (compareOp .Eq) (rOwn2 C sp E) := by
  intro pins s σ H x y v u Q I rx ry h
  obtain ⟨a, b, dx, dy, fs, gs, rfl, rfl, ea, eb, h⟩ := h
  obtain rfl : v = Value.ref a := rx
  obtain rfl : u = Value.ref b := ry
  obtain ⟨_, O, _⟩ := ins_get I.hok ea
  obtain ⟨_, O', _⟩ := ins_get I.hok eb
  obtain ⟨_, J, _⟩ := O.look
  obtain ⟨_, J', _⟩ := O'.look
  obtain ⟨_, fr⟩ := I.fr
  refine PySem.W.cmp_K (op := .Eq) (tb := .ref C) hr.units0 fr I.ok.mod.kin J J'.type (by simp [PySem.W.notFirst]) hm.at_ hm.fn ?_
  exact wpAny_mono (run_fn (dvs := []) F hr hb .nil hx I (.cons (show RelV (.ref a) (.ref a) from rfl) (.cons (show RelV (.ref b) (.ref b) from rfl) .nil)) h) (fun _ _ q => back_of q) fun _ _ z => z
theorem o_addOwn (F : FnOk X.prog X.w X.K X.mg X.base CX k g fd ps sp) (hr : Room k X.A) (hm : Meth X.K C "__add__" g) (hc : PySem.W.selfFirst X.K C = true) (hb : Binds X.K fd ps []) (hx : Passes CX X E) : OpR X (binaryOp .Add) (rOwn2 C sp E) := by
  intro pins s σ H x y v u Q I rx ry h
  obtain ⟨a, b, dx, dy, fs, gs, rfl, rfl, ea, eb, h⟩ := h
  obtain rfl : v = Value.ref a := rx
  obtain rfl : u = Value.ref b := ry
  obtain ⟨_, O, _⟩ := ins_get I.hok ea
  obtain ⟨_, O', _⟩ := ins_get I.hok eb
  obtain ⟨_, J, _⟩ := O.look
  obtain ⟨_, J', _⟩ := O'.look
  obtain ⟨_, fr⟩ := I.fr
  refine PySem.W.binop_K (op := .Add) fr I.ok.mod.kin J J'.type hc hm.at_ hm.fn ?_
  exact wpAny_mono (run_fn (dvs := []) F hr hb .nil hx I (.cons (show RelV (.ref a) (.ref a) from rfl) (.cons (show RelV (.ref b) (.ref b) from rfl) .nil)) h) (fun _ _ q => back_of q) fun _ _ z => z
end
/-! ### own objects: ==, len; names in short -/
def eOwn2 (PX : Addr → D → En → Prop) (C : Addr) (con : Con) (f1 f2 : EvF) : EvF := fun e P => f1 e fun r1 e1 => f2 e1 fun r2 e2 => ∃ fs gs e3 e4, frz e2 r1 = some (.obj C fs, e3) ∧ frz e3 r2 = some (.obj C gs, e4) ∧ callD PX con [.v (.obj C fs), .v (.obj C gs)] e4 P
def eLenO (C : Addr) (con : Con) (f : EvF) : EvF := fun e P => f e fun r e1 => ∃ fs e2, frz e1 r = some (.obj C fs, e2) ∧ callD (fun _ _ _ => False) con [.v (.obj C fs)] e2 fun r' e3 => ∃ n : Int, r' = .ent (.imm (.int n)) ∧ 0 ≤ n ∧ n < 2 ^ 63 ∧ P r' e3
section
variable {X : Cx} {F : Fr} {k : Nat} {C g : Addr} {fd : FuncData} {pn : List Str} {con : Con} {a b : Expr} {f1 f2 : EvF} {pos p : Pos} {x : Str}
theorem DT.own2 {E : XK} {ta tb : TE} (d1 : DT F ta f1) (d2 : DT F tb f2) (hE : ∀ σ, E = WE F.W σ) (fo : FrOk F) : DT F (tOp (rOwn2 C (spD F.K con) E) ta tb) (eOwn2 F.PX C con f1 f2) := fun σ I H e ps P Q s h k' => by
  refine d1 σ I H e ps _ _ s h fun x r1 e1 I1 H1 h1 s1 => ?_
  refine d2 σ I1 H1 e1 _ _ _ s1 h1 fun y r2 e2 I2 H2 h2 s2 => ?_
  obtain ⟨fs, gs, e3, e4, hf, hg, hc⟩ := h2
  rw [List.append_assoc] at s2
  obtain ⟨I3, _, s3⟩ := s2.frz hf
  have s3' : ST F σ I3 H2 e3 ((ps ++ [(x, .im (.obj C fs))]) ++ [(y, r2)]) := by rw [List.append_assoc]; exact s3
  obtain ⟨I4, _, s4⟩ := s3'.frz hg
  have ry : Rep F.K I4 y (.obj C gs) := ST.temp (ps := ps ++ [(x, .im (.obj C fs))]) (qs := []) (t := .imm (.obj C gs)) s4
  have rx : Rep F.K I4 x (.obj C fs) := ST.temp (ps := ps) (qs := []) (t := .imm (.obj C fs)) s4.weak
  cases rx with
  | @obj a _ dx fs' _ hx m1 r1 =>
    cases ry with
    | @obj b _ dy gs' _ hy m2 r2 =>
      refine ⟨a, b, dx, dy, fs', gs', rfl, rfl, s4.sub _ _ hx, s4.sub _ _ hy, ?_⟩
      rw [hE σ]
      refine ST.called (I := I4) (ps := ps) (as := [.v (.obj C fs), .v (.obj C gs)]) ?_ rfl fo hc k'
      rw [List.append_assoc] at s4
      exact s4
theorem de_eqO (h1 : DE X F a f1) (h2 : DE X F b f2) (G : FnOk X.prog X.w X.K X.mg X.base (L2.CX X.prog X.w) k g fd pn (spD X.K con)) (hr : Room k X.A) (hm : Meth X.K C "__eq__" g) (hb : Binds X.K fd pn []) (hK : F.K = X.K := by first | rfl | assumption) (hmk : behindInMarks .Eq b = false := by exact nomark _) :
    DE X F (.Compare a [.Eq] [b] pos) (eOwn2 (fun _ _ _ => False) C con f1 f2) := by
  obtain ⟨t1, p1, d1⟩ := h1
  obtain ⟨t2, p2, d2⟩ := h2
  refine ⟨_, pe_cmpR (o_eqOwn G hr hm hb (E := fun _ _ _ => False) passL) p1 p2 hmk, fun σ I H e ps P Q s h k' => ?_⟩
  rw [← hK]
  refine d1 σ I H e ps _ _ s h fun x r1 e1 I1 H1 h1 s1 => ?_
  refine d2 σ I1 H1 e1 _ _ _ s1 h1 fun y r2 e2 I2 H2 h2 s2 => ?_
  obtain ⟨fs, gs, e3, e4, hf, hg, hc⟩ := h2
  rw [List.append_assoc] at s2
  obtain ⟨I3, _, s3⟩ := s2.frz hf
  have s3' : ST F σ I3 H2 e3 ((ps ++ [(x, .im (.obj C fs))]) ++ [(y, r2)]) := by rw [List.append_assoc]; exact s3
  obtain ⟨I4, _, s4⟩ := s3'.frz hg
  have ry : Rep F.K I4 y (.obj C gs) := ST.temp (ps := ps ++ [(x, .im (.obj C fs))]) (qs := []) (t := .imm (.obj C gs)) s4
  have rx : Rep F.K I4 x (.obj C fs) := ST.temp (ps := ps) (qs := []) (t := .imm (.obj C fs)) s4.weak
  cases rx with
  | @obj a _ dx fs' _ hx m1 r1 =>
    cases ry with
    | @obj b _ dy gs' _ hy m2 r2 =>
      refine ⟨a, b, dx, dy, fs', gs', rfl, rfl, s4.sub _ _ hx, s4.sub _ _ hy, ?_⟩
      refine ST.called (F := F.nox) (I := I4) (ps := ps) (as := [.v (.obj C fs), .v (.obj C gs)]) ?_ rfl frok_nox hc fun x r e' I' H' p s => k' x r e' I' H' p s.unnox
      rw [List.append_assoc] at s4
      exact s4.nox
theorem de_lenO (h1 : DE X F a f1) (G : FnOk X.prog X.w X.K X.mg X.base (L2.CX X.prog X.w) k g fd pn (spD X.K con)) (hr : Room (k + 1) X.A) (hm : Meth X.K C "__len__" g) (hb : Binds X.K fd pn []) (hg : Gl X "len") (hmg : X.mg "len" = none) (hK : F.K = X.K := by first | rfl | assumption)
    (he : starEach [a] X.env = (false, eval a X.env) :: starEach [] X.env := by rfl) (hpl : (backTo pos (starEach [] X.env)).any (·.1) = false := by rfl) : DE X F (.Call (.Name "len" p) [a] [] pos) (eLenO C con f1) := by
  obtain ⟨t1, p1, d1⟩ := h1
  refine ⟨_, pe_callB (c_lenO G hr hm hb passL) hg hmg (by decide +kernel) (pa_cons p1 pa_nil he) (by decide) (by decide) he hpl, fun σ I H e ps P Q s h k' => ?_⟩
  refine d1 σ I H e ps _ _ s h fun x r1 e1 I1 H1 h1 s1 => ?_
  obtain ⟨fs, e2, hf, hc⟩ := h1
  obtain ⟨I2, _, s2⟩ := s1.frz hf
  have rx : Rep F.K I2 x (.obj C fs) := ST.temp (qs := []) (t := .imm (.obj C fs)) s2
  cases rx with
  | @obj a _ dx gs _ hx m1 r1 =>
    refine ⟨a, dx, gs, rfl, s2.sub _ _ hx, ?_⟩
    rw [← hK]
    refine ST.called (F := F.nox) (I := I2) (ps := ps) (as := [.v (.obj C fs)]) s2.nox rfl frok_nox hc fun x r e' I' H' ⟨n, hr, h0, h1, p⟩ s => ?_
    subst hr
    have rn : Rep F.K I' x (.int n) := ST.temp (F := F.nox) (qs := []) (t := .imm (.int n)) s
    cases rn
    exact ⟨n, rfl, h0, h1, k' _ _ e' I' H' p s.unnox⟩
/-- a local name, by its slot -/
theorem dv (i : Nat) {x : Str} {pos : Pos} (hN : X.N[i]? = some x := by rfl) (hv : Vis X.env.scope x := by first | exact Or.inl rfl | exact Or.inr (Or.inl rfl) | exact Or.inr (Or.inr rfl)) (hd : (x == ("__debug__" : Str)) = false := by decide)
    (hcd : (x == ("__classdict__" : Str)) = false := by decide) : DE X F (.Name x pos) (eVar i) := de_var hN hv hd hcd
/-- .. handed over as it is -/
theorem gr (i : Nat) {x : Str} {pos : Pos} {es : List Expr} {g : EvG} (h2 : DG X F es g) (hN : X.N[i]? = some x := by rfl) (hv : Vis X.env.scope x := by first | exact Or.inl rfl | exact Or.inr (Or.inl rfl) | exact Or.inr (Or.inr rfl)) (hd : (x == ("__debug__" : Str)) = false := by decide)
    (hcd : (x == ("__classdict__" : Str)) = false := by decide) (hs : starEach (.Name x pos :: es) X.env = (false, eval (.Name x pos) X.env) :: starEach es X.env := by rfl) : DG X F (.Name x pos :: es) (gaR i g) := dg_r hN hv h2 hd hcd hs
/-- a constant tuple of texts of the module -/
theorem de_con {x : Str} {a : Addr} {xs : List V} {ds : List D} {pos : Pos} (hg : Gl X x) (hm : X.mg x = some (.ref a)) (h : ∀ H, SqT X.K H a xs) (r : ∀ I, Reps X.K I xs ds) (hK : F.K = X.K := by first | rfl | assumption) (hd : (x == ("__debug__" : Str)) = false := by decide) : DE X F (.Name x pos) (eC (.ftp ds)) :=
  de_glob (v := .ref a) hg hm rfl (fun I => by rw [hK]; exact .ftp (h I) (r I)) hd
end
theorem reps_strs {K : PySem.W.Frag} {I : Hp} : ∀ zs : List Str, Reps K I (zs.map V.str) (zs.map D.str)
  | [] => .nil
  | _ :: zs => .cons (.str _) (reps_strs zs)
/-! ### the steps of a walk over data -/
section
variable {e e1 e2 e3 : En} {P : Rv → En → Prop} {PB : Bool → En → Prop} {PA : List Rv → En → Prop} {PG : List Ag → En → Prop} {PO : Option Int → En → Prop} {PN : En → Prop} {PE : Ent → Prop} {d : Ed} {i j : Nat} {c q : D} {a : Addr} {r r1 r2 : Rv} {rs : List Rv} {f g h : EvF} {fa : EvA} {fg : EvG} {t u : EvT} {s s' : SvF} {tg : TgF} {tgs : TgsF}
theorem s_vi (h : e[i]? = some (some (.imm c))) (k : P (.im c) e) : eVar i e P := .inl ⟨c, h, k⟩
theorem s_vs {x : Ent} (h : e[i]? = some (some x)) (k : P (.slot i) e) : eVar i e P := .inr ⟨x, h, k⟩
theorem s_c (k : P (.im c) e) : eC c e P := k
theorem s_aN (k : PA [] e) : aNil e PA := k
theorem s_aC (k : f e fun r e1 => fa e1 fun rs e2 => PA (r :: rs) e2) : aCons f fa e PA := k
theorem s_tup (k : fa e fun rs e1 => ∃ ds e2, frzs e1 rs = some (ds, e2) ∧ ds.length ≤ 1000 ∧ P (.im (.tup ds)) e2) : eTup fa e P := k
theorem s_lst (k : fa e fun rs e1 => ∃ ds e2, frzs e1 rs = some (ds, e2) ∧ ds.length ≤ 1000 ∧ ∀ a, P (.ent (.own a (.lst ds))) e2) : eLst fa e P := k
theorem x_frzs {R : List D → En → Prop} {ds : List D} (h : frzs e rs = some (ds, e1)) (l : Nat.ble ds.length 1000 = true) (k : R ds e1) : ∃ ds e2, frzs e rs = some (ds, e2) ∧ ds.length ≤ 1000 ∧ R ds e2 := ⟨ds, e1, h, Nat.le_of_ble_eq_true l, k⟩
theorem s_op {o : DO2} (k : f e fun r1 e1 => g e1 fun r2 e2 => ∃ c d, val e2 r1 = some c ∧ val e2 r2 = some d ∧ o c d fun t => P (.ent t) e2) : eOp o f g e P := k
theorem s_un {o : DO1} (k : f e fun r e1 => ∃ c, val e1 r = some c ∧ o c fun t => P (.ent t) e1) : eUn o f e P := k
theorem s_cl {o : DON} (k : fa e fun rs e1 => ∃ ds, vals e1 rs = some ds ∧ o ds fun t => P (.ent t) e1) : eCl o fa e P := k
theorem x_val2 {R : D → D → Prop} (h1 : val e r1 = some c) (h2 : val e r2 = some q) (k : R c q) : ∃ c d, val e r1 = some c ∧ val e r2 = some d ∧ R c d := ⟨c, q, h1, h2, k⟩
theorem x_val {R : D → Prop} (h : val e r = some c) (k : R c) : ∃ c, val e r = some c ∧ R c := ⟨c, h, k⟩
theorem x_vals {R : List D → Prop} {ds : List D} (h : vals e rs = some ds) (k : R ds) : ∃ ds, vals e rs = some ds ∧ R ds := ⟨ds, h, k⟩
theorem x_bl {R : Bool → Prop} {b : Bool} (h : val e r = some (.bl b)) (k : R b) : ∃ b, val e r = some (.bl b) ∧ R b := ⟨b, h, k⟩
theorem x_int {R : Int → Prop} {z : Int} (h : val e r = some (.int z)) (k : R z) : ∃ z, val e r = some (.int z) ∧ R z := ⟨z, h, k⟩
theorem x_frz {R : D → En → Prop} (h : frz e r = some (c, e1)) (k : R c e1) : ∃ c e2, frz e r = some (c, e2) ∧ R c e2 := ⟨c, e1, h, k⟩
theorem x_frzO {R : List (Str × D) → En → Prop} {C : Addr} {fs : List (Str × D)} (h : frz e r = some (.obj C fs, e1)) (k : R fs e1) : ∃ fs e2, frz e r = some (.obj C fs, e2) ∧ R fs e2 := ⟨fs, e1, h, k⟩
theorem x_asg {R : En → Prop} (h : asg e i r = some e1) (k : R e1) : ∃ e2, asg e i r = some e2 ∧ R e2 := ⟨e1, h, k⟩
theorem s_test (k : f e fun r e1 => ∃ b, val e1 r = some (.bl b) ∧ PB b e1) : eTest f e PB := k
theorem s_and (k : t e fun b e1 => if b = true then u e1 PB else PB false e1) : sAnd t u e PB := k
theorem s_or (k : t e fun b e1 => if b = true then PB true e1 else u e1 PB) : sOr t u e PB := k
theorem s_not (k : t e fun b e1 => PB (!b) e1) : sNot t e PB := k
theorem s_andV (k : f e fun r e1 => ∃ b, val e1 r = some (.bl b) ∧ if b = true then g e1 P else P (.im (.bl false)) e1) : eAnd f g e P := k
theorem s_orV (k : f e fun r e1 => ∃ b, val e1 r = some (.bl b) ∧ if b = true then P (.im (.bl true)) e1 else g e1 P) : eOr f g e P := k
theorem s_notV (k : f e fun r e1 => ∃ b, val e1 r = some (.bl b) ∧ P (.im (.bl !b)) e1) : eNot f e P := k
theorem s_ifV (k : t e fun b e1 => if b = true then f e1 P else g e1 P) : eIf t f g e P := k
theorem s_chain {o o' : DO2} (k : f e fun r1 e1 => g e1 fun r2 e2 => ∃ c d, val e2 r1 = some c ∧ val e2 r2 = some d ∧ o c d fun t => ∃ b, t = .imm (.bl b) ∧
  if b = true then h e2 fun r3 e3 => ∃ c d, val e3 r2 = some c ∧ val e3 r3 = some d ∧ o' c d fun t => P (.ent t) e3 else P (.im (.bl false)) e2) : eChain o o' f g h e P := k
theorem x_ib {R : Bool → Prop} {b : Bool} (k : R b) : ∃ b', Ent.imm (.bl b) = .imm (.bl b') ∧ R b' := ⟨b, rfl, k⟩
theorem s_pN (k : PO none e) : pNo e PO := k
theorem s_pS (k : f e fun r e1 => ∃ i, val e1 r = some (.int i) ∧ PO (some i) e1) : pSome f e PO := k
theorem s_sl {l u : EvO} (k : f e fun r e1 => l e1 fun lo e2 => u e2 fun hi e3 => ∃ c, val e3 r = some c ∧ oSl c lo hi fun t => P (.ent t) e3) : eSl f l u e P := k
theorem s_call {PX : Addr → D → En → Prop} {con : Con} (k : fg e fun as e1 => ∃ es, entsOf e1 as = some es ∧ oneEach (refsOf as) = true ∧ con es (fun t es' => es'.length = es.length ∧ ∃ e2, backTo' e1 as es' = some e2 ∧ P (.ent t) e2) (fun C d es' => ∃ e2, backTo' e1 as es' = some e2 ∧ PX C d e2)) : eCall PX con fg e P := k
theorem x_con {R : List Ent → Prop} {as : List Ag} {es : List Ent} {b : Bool} (h : entsOf e as = some es) (h2 : b = true) (k : R es) : ∃ es, entsOf e as = some es ∧ b = true ∧ R es := ⟨es, h, h2, k⟩
theorem x_back {R : En → Prop} {as : List Ag} {es' : List Ent} {n m : Nat} (hl : n = m) (h : backTo' e as es' = some e1) (k : R e1) : n = m ∧ ∃ e2, backTo' e as es' = some e2 ∧ R e2 := ⟨hl, e1, h, k⟩
theorem x_back1 {R : En → Prop} {as : List Ag} {es' : List Ent} (h : backTo' e as es' = some e1) (k : R e1) : ∃ e2, backTo' e as es' = some e2 ∧ R e2 := ⟨e1, h, k⟩
theorem s_gaN (k : PG [] e) : gaNil e PG := k
theorem s_gaV (k : f e fun r e1 => ∃ d e2, frz e1 r = some (d, e2) ∧ fg e2 fun as e3 => PG (.v d :: as) e3) : gaV f fg e PG := k
theorem s_gaR {x : Ent} (h : e[i]? = some (some x)) (k : fg e fun as e1 => PG (.r i :: as) e1) : gaR i fg e PG := ⟨⟨x, h⟩, k⟩
theorem s_meth {PX : Addr → D → En → Prop} {C : Addr} {m : Str} {con : Con} (k : f e fun r e1 => ∃ fs e2, frz e1 r = some (.obj C fs, e2) ∧ fs.lookup m = none ∧ fg e2 fun as e3 => callD PX con (.v (.obj C fs) :: as) e3 P) : eMeth PX C m con f fg e P := k
theorem s_meth0 {PX : Addr → D → En → Prop} {C : Addr} {m : Str} {con : Con} (k : f e fun r e1 => ∃ fs e2, frz e1 r = some (.obj C fs, e2) ∧ fs.lookup m = none ∧ callD PX con [.v (.obj C fs)] e2 P) : eMeth0 PX C m con f e P := k
theorem s_prop {C : Addr} {con : Con} (k : f e fun r e1 => ∃ fs e2, frz e1 r = some (.obj C fs, e2) ∧ callD (fun _ _ _ => False) con [.v (.obj C fs)] e2 P) : eProp C con f e P := k
theorem s_make {PX : Addr → D → En → Prop} {con : Con} (k : fg e fun as e1 => callD PX con as e1 P) : eMake PX con fg e P := k
theorem s_own2 {PX : Addr → D → En → Prop} {C : Addr} {con : Con} (k : f e fun r1 e1 => g e1 fun r2 e2 => ∃ fs gs e3 e4, frz e2 r1 = some (.obj C fs, e3) ∧ frz e3 r2 = some (.obj C gs, e4) ∧ callD PX con [.v (.obj C fs), .v (.obj C gs)] e4 P) : eOwn2 PX C con f g e P := k
theorem x_frz2 {R : List (Str × D) → List (Str × D) → En → Prop} {C : Addr} {fs gs : List (Str × D)} (h1 : frz e r1 = some (.obj C fs, e1)) (h2 : frz e1 r2 = some (.obj C gs, e2)) (k : R fs gs e2) : ∃ fs gs e3 e4, frz e r1 = some (.obj C fs, e3) ∧ frz e3 r2 = some (.obj C gs, e4) ∧ R fs gs e4 := ⟨fs, gs, e1, e2, h1, h2, k⟩
theorem s_lenO {C : Addr} {con : Con} (k : f e fun r e1 => ∃ fs e2, frz e1 r = some (.obj C fs, e2) ∧ callD (fun _ _ _ => False) con [.v (.obj C fs)] e2 fun r' e3 => ∃ n : Int, r' = .ent (.imm (.int n)) ∧ 0 ≤ n ∧ n < 2 ^ 63 ∧ P r' e3) : eLenO C con f e P := k
theorem s_callD {PX : Addr → D → En → Prop} {con : Con} {as : List Ag} {es : List Ent} (h : entsOf e as = some es) (h2 : oneEach (refsOf as) = true) (k : con es (fun t es' => es'.length = es.length ∧ ∃ e2, backTo' e as es' = some e2 ∧ P (.ent t) e2) (fun C d es' => ∃ e2, backTo' e as es' = some e2 ∧ PX C d e2)) : callD PX con as e P := ⟨es, h, h2, k⟩
theorem s_mut {o : DMo} {ds0 : List D} (h : e[i]? = some (some (.own a (.lst ds0)))) (k : fa e fun rs e1 => ∃ cs e2 a ds, frzs e1 rs = some (cs, e2) ∧ e2[i]? = some (some (.own a (.lst ds))) ∧ o ds cs fun ds' d => P (.im d) (e2.set i (some (.own a (.lst ds'))))) : eMut i o fa e P := ⟨⟨a, ds0, h⟩, k⟩
theorem x_mut {R : List D → En → Addr → List D → Prop} {cs ds : List D} (h : frzs e rs = some (cs, e1)) (h2 : e1[i]? = some (some (.own a (.lst ds)))) (k : R cs e1 a ds) : ∃ cs e2 a ds, frzs e rs = some (cs, e2) ∧ e2[i]? = some (some (.own a (.lst ds))) ∧ R cs e2 a ds := ⟨cs, e1, a, ds, h, h2, k⟩
theorem s_mut0 {o : DMo} {ds : List D} (h : e[i]? = some (some (.own a (.lst ds)))) (k : o ds [] fun ds' d => P (.im d) (e.set i (some (.own a (.lst ds'))))) : eMut0 i o e P := ⟨a, ds, h, k⟩
theorem s_dget (k : f e fun r1 e1 => g e1 fun r2 e2 => ∃ c d, val e2 r1 = some c ∧ val e2 r2 = some d ∧ dLook c d fun p => ∃ q, p = some q ∧ P (.im q) e2) : eDGet f g e P := k
theorem s_din (k : f e fun r1 e1 => g e1 fun r2 e2 => ∃ d c, val e2 r1 = some d ∧ val e2 r2 = some c ∧ dLook c d fun p => P (.im (.bl p.isSome)) e2) : eDIn f g e P := k
theorem s_dnin (k : f e fun r1 e1 => g e1 fun r2 e2 => ∃ d c, val e2 r1 = some d ∧ val e2 r2 = some c ∧ dLook c d fun p => P (.im (.bl !p.isSome)) e2) : eDNin f g e P := k
theorem s_lookT {es : List (List Key × D)} {kd : D} {k : List Key} {R : Option D → Prop} (h : keyT kd = some k) (q : R (lookD es k)) : dLook (.dic es) kd R := ⟨k, h, q⟩
theorem s_lookK {es : List (Key × D)} {kd : D} {k : Key} {R : Option D → Prop} (h : keyS kd = some k) (q : R (lookD es k)) : dLook (.dik es) kd R := ⟨k, h, q⟩
/-- statements -/
theorem s_next (k : d.nx e) : sNext e d := k
theorem s_seq (k : s e { d with nx := fun e1 => s' e1 d }) : sSeq s s' e d := k
theorem s_set (k : f e fun r e1 => ∃ e2, asg e1 i r = some e2 ∧ d.nx e2) : sSet i f e d := k
theorem s_drop (k : f e fun _ e1 => d.nx e1) : sDrop f e d := k
theorem s_ret (k : f e d.rt) : sRet f e d := k
theorem s_retN (k : d.rt (.im .non) e) : sRetN e d := k
theorem s_if (k : t e fun b e1 => if b = true then s e1 d else s' e1 d) : sIf t s s' e d := k
theorem s_brk (k : d.bk e) : sBrk e d := k
theorem s_cnt (k : d.ct e) : sCnt e d := k
theorem s_asg (k : f e fun r e1 => ∃ c e2, frz e1 r = some (c, e2) ∧ tg c e2 d.nx) : sAsg f tg e d := k
theorem s_raise {PX : Addr → D → En → Prop} {C : Addr} (k : f e fun r e1 => ∃ c e2, frz e1 r = some (c, e2) ∧ PX C c e2) : sRaise PX C f e d := k
theorem s_setIx (k : g e fun rv e1 => (∃ a ds, e1[i]? = some (some (.own a (.lst ds)))) ∧ f e1 fun ri e2 => ∃ c e3 a ds z j, val e2 ri = some (.int z) ∧ frz e2 rv = some (c, e3) ∧ e3[i]? = some (some (.own a (.lst ds))) ∧ ixN ds.length z = some j ∧ d.nx (e3.set i (some (.own a (.lst (ds.set j c)))))) : sSetIx i f g e d := k
theorem s_gN (h : asg e i (.im c) = some e1) (k : PN e1) : gN i c e PN := ⟨e1, h, k⟩
theorem s_gNl (k : PN e) : gNl [] e PN := ⟨rfl, k⟩
theorem s_gCn {cs : List D} (k : tg c e fun e1 => tgs cs e1 PN) : gCn tg tgs (c :: cs) e PN := ⟨c, cs, rfl, k⟩
theorem s_gT {n : Nat} {cs : List D} (l : cs.length = n) (k : tgs cs e PN) : gT n tgs (.tup cs) e PN := ⟨cs, .inl rfl, l, k⟩
theorem s_gL {n : Nat} {cs : List D} (l : cs.length = n) (k : tgs cs e PN) : gT n tgs (.lst cs) e PN := ⟨cs, .inr rfl, l, k⟩
theorem s_for {w : EvI} (k : w e fun ds e1 => ∃ W : Nat → En → Prop, W 0 e1 ∧ (∀ i c e2, ds[i]? = some c → W i e2 → tg c e2 fun e3 => s e3 { d with nx := W (i + 1), ct := W (i + 1), bk := d.nx }) ∧ ∀ e2, W ds.length e2 → d.nx e2) : sFor w tg s e d := k
theorem s_wSeq {PI : List D → En → Prop} (k : f e fun r e1 => ∃ c e2 ds, frz e1 r = some (c, e2) ∧ items c = some ds ∧ PI ds e2) : wSeq f e PI := k
theorem x_items {R : D → En → List D → Prop} {ds : List D} (h : frz e r = some (c, e1)) (h2 : items c = some ds) (k : R c e1 ds) : ∃ c e2 ds, frz e r = some (c, e2) ∧ items c = some ds ∧ R c e2 ds := ⟨c, e1, ds, h, h2, k⟩
theorem s_rng1 {PI : List D → En → Prop} (k : fa e fun rs e1 => ∃ j, vals e1 rs = some [.int j] ∧ -(2 ^ 62) ≤ j ∧ j < 2 ^ 62 ∧ PI (rngD 0 1 j.toNat) e1) : wRng1 fa e PI := k
theorem x_rng1 {R : Int → Prop} {z : Int} (h : vals e rs = some [.int z]) (h1 : -(2 ^ 62) ≤ z) (h2 : z < 2 ^ 62) (k : R z) : ∃ j, vals e rs = some [.int j] ∧ -(2 ^ 62) ≤ j ∧ j < 2 ^ 62 ∧ R j := ⟨z, h, h1, h2, k⟩
theorem s_rng2 {PI : List D → En → Prop} (k : fa e fun rs e1 => ∃ i j, vals e1 rs = some [.int i, .int j] ∧ (-(2 ^ 62) ≤ i ∧ i < 2 ^ 62 ∧ -(2 ^ 62) ≤ j ∧ j < 2 ^ 62) ∧ PI (rngD i 1 (j - i).toNat) e1) : wRng2 fa e PI := k
theorem x_rng2 {R : Int → Int → Prop} {x z : Int} (h : vals e rs = some [.int x, .int z]) (h1 : -(2 ^ 62) ≤ x ∧ x < 2 ^ 62 ∧ -(2 ^ 62) ≤ z ∧ z < 2 ^ 62) (k : R x z) : ∃ i j, vals e rs = some [.int i, .int j] ∧ (-(2 ^ 62) ≤ i ∧ i < 2 ^ 62 ∧ -(2 ^ 62) ≤ j ∧ j < 2 ^ 62) ∧ R i j := ⟨x, z, h, h1, k⟩
theorem s_enum {PI : List D → En → Prop} (k : f e fun r e1 => ∃ c e2 ds, frz e1 r = some (c, e2) ∧ c = .lst ds ∧ PI (enumD ds) e2) : wEnum f e PI := k
theorem x_enum {R : En → List D → Prop} {ds : List D} (h : frz e r = some (.lst ds, e1)) (k : R e1 ds) : ∃ c e2 ds, frz e r = some (c, e2) ∧ c = .lst ds ∧ R e2 ds := ⟨_, e1, ds, h, rfl, k⟩
theorem s_lc {w : EvI} {vs : List Nat} (k : w e fun ds e1 => clearB e1 vs = true ∧ ds.length ≤ 1000000 ∧ ∃ W : Nat → List D → Prop, W 0 [] ∧
  (∀ i c acc, ds[i]? = some c → W i acc → tg c e1 fun e3 => t e3 fun b e4 => if b = true then f e4 fun r e5 => ∃ d e6, frz e5 r = some (d, e6) ∧ wipeE e6 vs = wipeE e1 vs ∧ W (i + 1) (acc ++ [d]) else wipeE e4 vs = wipeE e1 vs ∧ W (i + 1) acc) ∧
  ∀ acc, W ds.length acc → ∀ a, P (.ent (.own a (.lst acc))) (wipeE e1 vs)) : eLc w tg t f vs e P := k
theorem s_yes (k : PB true e) : sYes e PB := k
theorem x_clear {R : Prop} {vs : List Nat} (h : clearB e vs = true) (k : R) : clearB e vs = true ∧ R := ⟨h, k⟩
theorem s_end {es es' : List Ent} {R : Ent → List Ent → Prop} {x : Ent} (h : mov e r = some (x, e1)) (b : BackE es e1 es') (k : R x es') : (endE es R).rt r e := ⟨x, e1, h, es', b, k⟩
theorem s_endN {es es' : List Ent} {R : Ent → List Ent → Prop} (b : BackE es e es') (k : R (.imm .non) es') : (endE es R).nx e := ⟨es', b, k⟩
end
/-! operators by shape -/
section
variable {i j : Int} {P : Ent → Prop} {c q : D} {xs ys : List D} {z y : Str}
theorem o_addI (k : P (.imm (.int (i + j)))) : oAdd (.int i) (.int j) P := k
theorem o_addS' (h : z.length + y.length ≤ sizeLine) (k : P (.imm (.str (z ++ y)))) : oAdd (.str z) (.str y) P := ⟨h, k⟩
theorem o_addL (h : xs.length + ys.length ≤ sizeLine) (k : ∀ a, P (.own a (.lst (xs ++ ys)))) : oAdd (.lst xs) (.lst ys) P := ⟨h, k⟩
theorem o_subI (k : P (.imm (.int (i - j)))) : oSub (.int i) (.int j) P := k
theorem o_mulI (h : MulOk i j) (k : P (.imm (.int (i * j)))) : oMul (.int i) (.int j) P := ⟨h, k⟩
theorem o_divI (h : DivOk j) (k : P (.imm (.int (i / j)))) : oDiv (.int i) (.int j) P := ⟨h, k⟩
theorem o_modI (h : 0 < j) (k : P (.imm (.int (i % j)))) : oMod (.int i) (.int j) P := ⟨h, k⟩
theorem o_powI (h : CPow i j) (k : P (.imm (.int (i ^ j.toNat)))) : oPow (.int i) (.int j) P := ⟨h, k⟩
theorem o_andI (k : P (.imm (.int (Builtin.bitAnd i j)))) : oAnd (.int i) (.int j) P := k
theorem o_ltI (k : P (.imm (.bl (decide (i < j))))) : oLt (.int i) (.int j) P := k
theorem o_leI (k : P (.imm (.bl (decide (i ≤ j))))) : oLe (.int i) (.int j) P := k
theorem o_gtI (k : P (.imm (.bl (decide (j < i))))) : oGt (.int i) (.int j) P := k
theorem o_geI (k : P (.imm (.bl (decide (j ≤ i))))) : oGe (.int i) (.int j) P := k
theorem o_eqI (k : P (.imm (.bl (decide (i = j))))) : oEq (.int i) (.int j) P := k
theorem o_eqS (k : P (.imm (.bl (decide (z = y))))) : oEq (.str z) (.str y) P := k
theorem o_neI (k : P (.imm (.bl (!decide (i = j))))) : oNe (.int i) (.int j) P := k
theorem o_neS (k : P (.imm (.bl (!decide (z = y))))) : oNe (.str z) (.str y) P := k
theorem o_isN' (k : P (.imm (.bl (isNon c)))) : oIs c .non P := by cases c <;> exact k
theorem o_isB' {b : Bool} (k : P (.imm (.bl (isBl b c)))) : oIs c (.bl b) P := by cases c <;> exact k
theorem o_notN' (k : P (.imm (.bl (!isNon c)))) : oIsNot c .non P := by cases c <;> exact k
theorem o_ixL {n : Nat} (h : ixN xs.length i = some n) (h2 : xs[n]? = some c) (k : P (.imm c)) : oIx (.lst xs) (.int i) P := ⟨n, c, h, h2, k⟩
theorem o_ixT {n : Nat} (h : ixN xs.length i = some n) (h2 : xs[n]? = some c) (k : P (.imm c)) : oIx (.tup xs) (.int i) P := ⟨n, c, h, h2, k⟩
theorem o_slL {lo hi : Option Int} (k : ∀ a, P (.own a (.lst (cutL xs lo hi)))) : oSl (.lst xs) lo hi P := k
theorem o_fld {f : Str} {C : Addr} {fs : List (Str × D)} (h : fs.lookup f = some c) (k : P (.imm c)) : oFld f C (.obj C fs) P := ⟨rfl, c, h, k⟩
theorem o_lenL (k : P (.imm (.int ((xs.length : Nat) : Int)))) : cLen [.lst xs] P := k
theorem o_lenT (k : P (.imm (.int ((xs.length : Nat) : Int)))) : cLen [.tup xs] P := k
theorem o_lenF (k : P (.imm (.int ((xs.length : Nat) : Int)))) : cLen [.fls xs] P := k
theorem o_lenD {es : List (List Key × D)} (k : P (.imm (.int ((es.length : Nat) : Int)))) : cLen [.dic es] P := k
theorem o_int (k : P (.imm (.int i))) : cInt [.int i] P := k
theorem o_abs (k : P (.imm (.int (if i < 0 then -i else i)))) : cAbs [.int i] P := k
theorem o_max (k : P (.imm (.int (if j > i then j else i)))) : cMax [.int i, .int j] P := k
theorem o_min (k : P (.imm (.int (if j < i then j else i)))) : cMin [.int i, .int j] P := k
theorem o_list (k : ∀ a, P (.own a (.lst xs))) : cList [.lst xs] P := k
theorem o_inF {ks : List Str} (h : strsOf xs = some ks) (k : P (.imm (.bl (ks.contains z)))) : oIn (.str z) (.ftp xs) P := ⟨ks, h, k⟩
theorem o_ninF {ks : List Str} (h : strsOf xs = some ks) (k : P (.imm (.bl (!ks.contains z)))) : oNin (.str z) (.ftp xs) P := ⟨ks, h, _, rfl, k⟩
theorem o_inT {ks : List Str} (h : strsOf xs = some ks) (k : P (.imm (.bl (ks.contains z)))) : oIn (.str z) (.tup xs) P := ⟨ks, h, k⟩
theorem o_ninT {ks : List Str} (h : strsOf xs = some ks) (k : P (.imm (.bl (!ks.contains z)))) : oNin (.str z) (.tup xs) P := ⟨ks, h, _, rfl, k⟩
theorem m_app {R : List D → D → Prop} (h : xs.length ≤ 1000000) (k : R (xs ++ [c]) .non) : TK.mAppend xs [c] R := ⟨c, rfl, h, k⟩
theorem m_clr {R : List D → D → Prop} (k : R [] .non) : TK.mClear xs [] R := ⟨rfl, k⟩
theorem m_rev {R : List D → D → Prop} (k : R xs.reverse .non) : TK.mReverse xs [] R := ⟨rfl, k⟩
end
/-! ### a list of one's own is looked at, and stays one's own -/
def sForV (i : Nat) (g : TgF) (body : SvF) : SvF := fun e d => ∃ a ds, e[i]? = some (some (.own a (.lst ds))) ∧ ∃ W : Nat → En → Prop, W 0 e ∧ (∀ k e2, W k e2 → e2[i]? = some (some (.own a (.lst ds)))) ∧
  (∀ k c e2, ds[k]? = some c → W k e2 → g c e2 fun e3 => body e3 { d with nx := W (k + 1), ct := W (k + 1), bk := d.nx }) ∧ ∀ e2, W ds.length e2 → d.nx e2
def eLcV (i : Nat) (g : TgF) (tt : EvT) (f : EvF) (vs : List Nat) : EvF := fun e P => ∃ a ds, e[i]? = some (some (.own a (.lst ds))) ∧ clearB e vs = true ∧ ds.length ≤ 1000000 ∧ ∃ W : Nat → List D → Prop, W 0 [] ∧
  (∀ i c acc, ds[i]? = some c → W i acc → g c e fun e3 => tt e3 fun b e4 => if b = true then f e4 fun r e5 => ∃ d e6, frz e5 r = some (d, e6) ∧ wipeE e6 vs = wipeE e vs ∧ W (i + 1) (acc ++ [d]) else wipeE e4 vs = wipeE e vs ∧ W (i + 1) acc) ∧
  ∀ acc, W ds.length acc → ∀ b, P (.ent (.own b (.lst acc))) (wipeE e vs)
section
variable {X : Cx} {F : Fr} {tg elt : Expr} {g : TgF} {f : SvF} {fe : EvF} {tt : EvT} {body : List Stmt} {pos p : Pos} {sl : List Nat} {i : Nat} {x : Str} {ifs : List Expr} {scope : Scope} {own : List (Str × Nat)}
theorem ds_forV (hp : PassesOwn (model X.prog X.w) X.A X.env X.xe) (hc : X.calm = true) (hN : X.N[i]? = some x) (hv : Vis X.env.scope x) (hg : DGt X F tg g sl) (hb : DSs X F body f) (hK : F.K = X.K := by first | rfl | assumption)
    (hd : (x == ("__debug__" : Str)) = false := by decide) (hcd : (x == ("__classdict__" : Str)) = false := by decide) (hs : ∀ z, foldedSetIterable (.Name x p) X.env z = pure z := by intro _; rfl) : DS X F (.For tg (.Name x p) body [] pos) (sForV i g f) := by
  obtain ⟨tg', pg, dg⟩ := hg
  obtain ⟨tb, pb, db⟩ := hb
  refine ⟨_, ps_for hp hc (pi_any (pe_var hN hv hd hcd)) pg pb hs, fun σ I H e ps d D hps s h k => ?_⟩
  obtain ⟨a, ds, q, W, w0, wk, turn, fin⟩ := h
  obtain ⟨y1, n, xs, hx, r⟩ := s.ownL q
  refine ⟨.ref a, y1, .inl ⟨a, rfl, ⟨xs, SqL.of hx⟩, ?_⟩⟩
  refine ⟨fun i m σ H => m = ds.length - i ∧ i ≤ ds.length ∧ ∃ e I, W i e ∧ ST F σ I H e ps, ⟨ds.length, by simp, Nat.zero_le _, e, I, w0, s⟩, ?_⟩
  rintro j m σ2 H2 ⟨rfl, hi, e2, I2, w2, s2⟩
  obtain ⟨z1, n2, xs2, hx2, r2⟩ := s2.ownL (wk j e2 w2)
  by_cases hlt : j < ds.length
  · refine .inr ⟨⟨xs2, xs2[j]'(by rw [r2.len]; exact hlt), SqL.of hx2, List.getElem?_eq_getElem _⟩, fun σ' H' => ∃ e I, W (j + 1) e ∧ ST F σ' I H' e ps, fun σ' H' ⟨e', I', z1, z2⟩ => ⟨ds.length - (j + 1), by omega, rfl, hlt, e', I', z1, z2⟩, fun x H3 hy => ?_⟩
    obtain ⟨rfl, hy2⟩ := hy
    obtain ⟨c, hc3, rx⟩ := r2.get' (hy2 xs2 (SqL.of hx2))
    refine dg x c σ2 I2 H3 e2 ps _ _ (hps.no _) s2 rx (turn j c e2 hc3 w2) fun σ4 e4 h4 s4 _ => ?_
    refine db σ4 I2 H3 e4 ps _ _ hps s4 h4 ⟨fun σ' I' H' e' h5 s5 => ⟨e', I', h5, s5⟩, fun x r σ' I' H' e' h5 s5 => k.rt x r σ' I' H' e' h5 s5, fun σ' I' H' e' h5 s5 => k.nx σ' I' H' e' h5 s5, fun σ' I' H' e' h5 s5 => ⟨e', I', h5, s5⟩⟩
  · have hi' : j = ds.length := by omega
    subst hi'
    exact .inl ⟨⟨xs2, SqL.of hx2, Nat.le_of_eq r2.len⟩, k.nx σ2 I2 H2 e2 (fin e2 w2) s2⟩
theorem DT.lcV {vs : List Nat} (hsl : ∀ j ∈ sl, j ∈ vs) : DT F (tLc (iAny F.K (tVar i)) (tOfG F.nox g sl) (tOfT F.nox tt) (tOf F.nox fe) vs) (eLcV i g tt fe vs) := fun σ I H e ps P Q s h k => by
  obtain ⟨a, ds, q, hcl, hz, W, w0, turn, fin⟩ := h
  obtain ⟨y1, n, xs, hx, r⟩ := s.ownL q
  refine ⟨.ref a, y1, .inl ⟨a, rfl, ⟨xs, SqL.of hx⟩, ?_⟩⟩
  have nps : NoSl vs ps := clear_no s hcl
  intro D hD
  have sW := s.wipe nps
  have s0 : ST F (L2.wipe σ vs) I (upd H D (.lst [])) (wipeE e vs) (ps ++ [(V.ref D, .ent (.own D (.lst [])))]) := sW.pushG (t := .own D (.lst [])) (Grow.alloc s.sub hD) ⟨rfl, s.sub.none hD, [], upd_same, .nil⟩ fun a ha => by simp at ha; subst ha; exact hD
  have nD : ∀ acc : List TK.D, NoSl vs (ps ++ [(V.ref D, .ent (.own D (.lst acc)))]) := fun acc p hp j q => by
    rcases List.mem_append.mp hp with m | m
    · exact nps p m j q
    · rw [List.mem_singleton] at m
      subst m
      cases q
  have wE : wipeE e vs = e := by
    refine List.ext_getElem? fun i => ?_
    by_cases hi : i ∈ vs
    · have z := List.all_eq_true.mp hcl i hi
      have lw := wipeE_len (e := e) vs
      cases q : e[i]? with
      | none =>
        rw [List.getElem?_eq_none_iff] at q ⊢
        omega
      | some o =>
        cases o with
        | some t => rw [q] at z; cases z
        | none =>
          cases q2 : (wipeE e vs)[i]? with
          | none =>
            rw [List.getElem?_eq_none_iff] at q2
            have := (List.getElem?_eq_some_iff.mp q).1
            omega
          | some o2 =>
            cases o2 with
            | none => rfl
            | some t => exact absurd hi (wipeE_some q2).2
    · exact wipeE_out hi
  have qW : (wipeE e vs)[i]? = some (some (.own a (.lst ds))) := by rw [wE]; exact q
  refine ⟨fun i m H => m = ds.length - i ∧ i ≤ ds.length ∧ ∃ (acc : List TK.D) (I : Hp), acc.length ≤ i ∧ W i acc ∧ ST F (L2.wipe σ vs) I H (wipeE e vs) (ps ++ [(V.ref D, .ent (.own D (.lst acc)))]), ⟨ds.length, by simp, Nat.zero_le _, [], I, Nat.zero_le _, w0, s0⟩, ?_⟩
  rintro j m H2 ⟨rfl, hi, acc, I2, hacc, w2, s2⟩
  obtain ⟨_, n2, xs2, hx2, r2⟩ := s2.ownL qW
  by_cases hlt : j < ds.length
  · refine .inr ⟨⟨xs2, xs2[j]'(by rw [r2.len]; exact hlt), SqL.of hx2, List.getElem?_eq_getElem _⟩, fun H' => ∃ (acc : List TK.D) (I : Hp), acc.length ≤ j + 1 ∧ W (j + 1) acc ∧ ST F (L2.wipe σ vs) I H' (wipeE e vs) (ps ++ [(V.ref D, .ent (.own D (.lst acc)))]), fun H' z => ⟨ds.length - (j + 1), by omega, rfl, hlt, z⟩, fun x H3 hy => ?_⟩
    obtain ⟨rfl, hy2⟩ := hy
    obtain ⟨c, hc3, rx⟩ := r2.get' (hy2 xs2 (SqL.of hx2))
    have s3 := s2.nox
    have tu := turn j c acc hc3 w2
    refine ⟨c, I2, wipeE e vs, _, _, fun p hp j q m => nD acc p hp j q (hsl j m), s3, rx, by rw [wE]; exact tu, fun σ4 e4 h4 s4 so => ?_⟩
    have sw : wipe σ4 vs = wipe σ vs := by
      have z := wipe_same (vs := vs) (σ := L2.wipe σ vs) (σ' := σ4) ⟨so.1, fun j hj => so.2 j fun m => hj (hsl j m)⟩
      rw [z]
      exact wipe_same (vs := vs) ⟨wipe_length .., fun j hj => wipe_out hj⟩
    refine ⟨sw, I2, e4, _, _, s4, h4, fun b e5 I5 H5 h5 s5 => ?_⟩
    cases b with
    | false =>
      obtain ⟨q1, q2⟩ := h5
      have s6 := s5.unnox.wipe (vs := vs) (nD acc)
      rw [sw, q1] at s6
      exact ⟨acc, I5, by omega, q2, s6⟩
    | true =>
      refine ⟨I5, e5, _, _, s5, h5, fun y r e6 I6 H6 h6 s6 => ?_⟩
      obtain ⟨d, e7, hf, q1, q2⟩ := h6
      obtain ⟨I7, _, s7⟩ := s6.unnox.frz hf
      have ry : Rep F.K I7 y d := ST.temp (qs := []) (t := .imm d) s7
      have s8 := ST.weak s7
      have rD : EntR F.K I7 H6 (.ref D) (.own D (.lst acc)) := ST.temp (ps := ps) (qs := []) s8
      obtain ⟨_, _, xs, hx, rr⟩ := rD
      have lx := rr.len
      refine ⟨xs, hx, by rw [lx]; exact Nat.lt_of_le_of_lt (m := 1000000) (by omega) (by decide), acc ++ [d], I7, by simp; omega, q2, ?_⟩
      have s9 := ST.mutT (ps := ps) (qs := []) (d' := .lst (acc ++ [d])) (o := .lst (xs ++ [y])) s8 ⟨xs ++ [y], upd_same, rr.app (.cons ry .nil)⟩
      have s10 := s9.wipe (vs := vs) (nD _)
      rw [sw, q1] at s10
      exact s10
  · have hi' : j = ds.length := by omega
    subst hi'
    refine .inl ⟨⟨xs2, SqL.of hx2, Nat.le_of_eq r2.len⟩, ?_⟩
    exact k _ _ _ I2 H2 (fin acc w2 D) ((s2.unwipe (nD acc)))
theorem de_lcV (hc : X.calm = true) (hN : X.N.Nodup) (hNi : X.N[i]? = some x) (hv : Vis X.env.scope x) (ok : BlkOk X.N X.env.scope scope own)
    (hg : ∀ (s : Shared) (H : Hp) (C : Addr) (cl : List (Str × Addr)) (fp : List Addr), DGt (X.blk s H scope (compEnvC scope cl C X.env) fp) F.nox tg g sl) (ht : ∀ (s : Shared) (H : Hp) (C : Addr) (cl : List (Str × Addr)) (fp : List Addr), DTs (X.blk s H scope (compEnvC scope cl C X.env) fp) F.nox ifs tt)
    (he : ∀ (s : Shared) (H : Hp) (C : Addr) (cl : List (Str × Addr)) (fp : List Addr), DE (X.blk s H scope (compEnvC scope cl C X.env) fp) F.nox elt fe) (hsl : (sl.all fun j => (own.map (·.2)).contains j) = true) (hK : F.K = X.K := by first | rfl | assumption)
    (hd : (x == ("__debug__" : Str)) = false := by decide) (hcd : (x == ("__classdict__" : Str)) = false := by decide) (hs : ∀ z, foldedSetIterable (.Name x p) X.env z = pure z := by intro _; rfl) :
    DE X F (.ListComp elt [⟨tg, .Name x p, ifs, 0⟩] scope pos) (eLcV i g tt fe (own.map (·.2))) := by
  have z := DT.lcV (F := F) (g := g) (tt := tt) (fe := fe) (i := i) (vs := own.map (·.2)) (sl := sl) fun j hj => List.contains_iff_mem.mp (List.all_eq_true.mp hsl j hj)
  rw [hK] at z
  exact ⟨_, pe_lc hc hN (pi_any (pe_var hNi hv hd hcd)) ok (fun s H C cl fp => (hg s H C cl fp).tof) (fun s H C cl fp => (ht s H C cl fp).tof) (fun s H C cl fp => (he s H C cl fp).tof) hs, z⟩
theorem ds_setLcV {k : Nat} {y : Str} {py spos : Pos} (hc : X.calm = true) (hN : X.N.Nodup) (hy : X.N[k]? = some y) (hyl : X.env.scope.names.lookup y = some .local)
    (hsw : swapsWith (.ListComp elt [⟨tg, .Name x p, ifs, 0⟩] scope pos) (some (.Name y py)) spos.line X.env = pure true) (hNi : X.N[i]? = some x) (hv : Vis X.env.scope x) (ok : BlkOk X.N X.env.scope scope own)
    (hg : ∀ (s : Shared) (H : Hp) (C : Addr) (cl : List (Str × Addr)) (fp : List Addr), DGt (X.blk s H scope (compEnvC scope cl C X.env) fp) F.nox tg g sl) (ht : ∀ (s : Shared) (H : Hp) (C : Addr) (cl : List (Str × Addr)) (fp : List Addr), DTs (X.blk s H scope (compEnvC scope cl C X.env) fp) F.nox ifs tt)
    (he : ∀ (s : Shared) (H : Hp) (C : Addr) (cl : List (Str × Addr)) (fp : List Addr), DE (X.blk s H scope (compEnvC scope cl C X.env) fp) F.nox elt fe) (hsl : (sl.all fun j => (own.map (·.2)).contains j) = true) (hK : F.K = X.K := by first | rfl | assumption)
    (hd : (x == ("__debug__" : Str)) = false := by decide) (hcd : (x == ("__classdict__" : Str)) = false := by decide) (hs : ∀ z, foldedSetIterable (.Name x p) X.env z = pure z := by intro _; rfl) :
    DS X F (.Assign [.Name y py] (.ListComp elt [⟨tg, .Name x p, ifs, 0⟩] scope pos) spos) (sSet k (eLcV i g tt fe (own.map (·.2)))) := by
  have z := DT.lcV (F := F) (g := g) (tt := tt) (fe := fe) (i := i) (vs := own.map (·.2)) (sl := sl) fun j hj => List.contains_iff_mem.mp (List.all_eq_true.mp hsl j hj)
  rw [hK] at z
  refine ⟨_, ps_setLc hc hN hy hyl hsw (pi_any (pe_var hNi hv hd hcd)) ok (fun s H C cl fp => (hg s H C cl fp).tof) (fun s H C cl fp => (ht s H C cl fp).tof) (fun s H C cl fp => (he s H C cl fp).tof) hs, fun σ I H e ps d D hp s h k => ?_⟩
  refine z σ I H e ps _ _ s h fun x r e1 I1 H1 h1 s1 => ?_
  obtain ⟨e2, ha, h2⟩ := h1
  obtain ⟨I2, s2⟩ := s1.asg (hp.no _) ha
  exact k.nx _ I2 H1 e2 h2 s2
theorem s_lcV {e : En} {P : Rv → En → Prop} {vs : List Nat} {a : Addr} {ds : List D} (q : e[i]? = some (some (.own a (.lst ds)))) (hc : clearB e vs = true) (h : ds.length ≤ 1000000 ∧ ∃ W : Nat → List D → Prop, W 0 [] ∧
  (∀ i c acc, ds[i]? = some c → W i acc → g c e fun e3 => tt e3 fun b e4 => if b = true then fe e4 fun r e5 => ∃ d e6, frz e5 r = some (d, e6) ∧ wipeE e6 vs = wipeE e vs ∧ W (i + 1) (acc ++ [d]) else wipeE e4 vs = wipeE e vs ∧ W (i + 1) acc) ∧
  ∀ acc, W ds.length acc → ∀ b, P (.ent (.own b (.lst acc))) (wipeE e vs)) : eLcV i g tt fe vs e P := ⟨a, ds, q, hc, h⟩
theorem s_forV {e : En} {d : Ed} {a : Addr} {ds : List D} (q : e[i]? = some (some (.own a (.lst ds)))) (h : ∃ W : Nat → En → Prop, W 0 e ∧ (∀ k e2, W k e2 → e2[i]? = some (some (.own a (.lst ds)))) ∧
  (∀ k c e2, ds[k]? = some c → W k e2 → g c e2 fun e3 => f e3 { d with nx := W (k + 1), ct := W (k + 1), bk := d.nx }) ∧ ∀ e2, W ds.length e2 → d.nx e2) : sForV i g f e d := ⟨a, ds, q, h⟩
end
/-! ### comprehensions whose elements change what the frame holds (the hand) -/
def eLcG (w : EvI) (g : TgF) (tt : EvT) (f : EvF) (vs : List Nat) : EvF := fun e P => w e fun ds e1 => clearB e1 vs = true ∧ ds.length ≤ 1000000 ∧ ∃ W : Nat → En → List D → Prop, W 0 e1 [] ∧
  (∀ i c e2 acc, ds[i]? = some c → W i e2 acc → clearB e2 vs = true ∧ g c e2 fun e3 => tt e3 fun b e4 => if b = true then f e4 fun r e5 => ∃ d e6, frz e5 r = some (d, e6) ∧ W (i + 1) (wipeE e6 vs) (acc ++ [d]) else W (i + 1) (wipeE e4 vs) acc) ∧
  ∀ e2 acc, W ds.length e2 acc → ∀ a, P (.ent (.own a (.lst acc))) e2
theorem wipe_clear {e : En} {vs : List Nat} (hcl : clearB e vs = true) : wipeE e vs = e := by
  refine List.ext_getElem? fun i => ?_
  by_cases hi : i ∈ vs
  · have z := List.all_eq_true.mp hcl i hi
    have lw := wipeE_len (e := e) vs
    cases q : e[i]? with
    | none =>
      rw [List.getElem?_eq_none_iff] at q ⊢
      omega
    | some o =>
      cases o with
      | some t => rw [q] at z; cases z
      | none =>
        cases q2 : (wipeE e vs)[i]? with
        | none =>
          rw [List.getElem?_eq_none_iff] at q2
          have := (List.getElem?_eq_some_iff.mp q).1
          omega
        | some o2 =>
          cases o2 with
          | none => rfl
          | some t => exact absurd hi (wipeE_some q2).2
  · exact wipeE_out hi
section
variable {X : Cx} {F : Fr} {elt tg iter : Expr} {ifs : List Expr} {scope : Scope} {own : List (Str × Nat)} {pos : Pos} {w : EvI} {g : TgF} {tt : EvT} {f : EvF} {sl : List Nat}
theorem DT.lcG {wi : TI} {vs : List Nat} (hw : DTI F wi w) (hsl : ∀ j ∈ sl, j ∈ vs) : DT F (tLc wi (tOfG F.nox g sl) (tOfT F.nox tt) (tOf F.nox f) vs) (eLcG w g tt f vs) := fun σ I H e ps P Q s h k => by
  refine hw σ I H e ps _ _ s h fun J ds qs e1 I1 H1 h1 hqs s1 itd => ?_
  obtain ⟨hcl, hz, W, w0, turn, fin⟩ := h1
  have nps : NoSl vs (ps ++ qs) := clear_no s1 hcl
  intro D hD
  have wE : wipeE e1 vs = e1 := wipe_clear hcl
  have sW := s1.wipe nps
  rw [wE] at sW
  have s0 : ST F (L2.wipe σ vs) I1 (upd H1 D (.lst [])) e1 (ps ++ qs ++ [(V.ref D, .ent (.own D (.lst [])))]) := sW.pushG (t := .own D (.lst [])) (Grow.alloc s1.sub hD) ⟨rfl, s1.sub.none hD, [], upd_same, .nil⟩ fun a ha => by simp at ha; subst ha; exact hD
  have nD : ∀ acc : List TK.D, NoSl vs (ps ++ qs ++ [(V.ref D, .ent (.own D (.lst acc)))]) := fun acc p hp j q => by
    rcases List.mem_append.mp hp with m | m
    · exact nps p m j q
    · rw [List.mem_singleton] at m
      subst m
      cases q
  refine ⟨fun i m H => m = ds.length - i ∧ i ≤ ds.length ∧ ∃ (acc : List TK.D) (I : Hp) (e2 : En), acc.length ≤ i ∧ W i e2 acc ∧ ST F (L2.wipe σ vs) I H e2 (ps ++ qs ++ [(V.ref D, .ent (.own D (.lst acc)))]) ∧ (i = 0 → clearB e2 vs = true) ∧ wipeE e2 vs = e2, ⟨ds.length, by simp, Nat.zero_le _, [], I1, e1, Nat.zero_le _, w0, s0, fun _ => hcl, wE⟩, ?_⟩
  rintro i m H2 ⟨rfl, hi, acc, I2, e2, hacc, w2, s2, _, wE2⟩
  have hold : Holds F.K I2 qs := (ST.weak (ps := ps ++ qs) s2).holds
  by_cases hlt : i < ds.length
  · refine .inr ⟨itd.go I2 H2 i s2.sub hold hlt, fun H' => ∃ (acc : List TK.D) (I : Hp) (e2 : En), acc.length ≤ i + 1 ∧ W (i + 1) e2 acc ∧ ST F (L2.wipe σ vs) I H' e2 (ps ++ qs ++ [(V.ref D, .ent (.own D (.lst acc)))]) ∧ (i + 1 = 0 → clearB e2 vs = true) ∧ wipeE e2 vs = e2, fun H' z => ⟨ds.length - (i + 1), by omega, rfl, hlt, z⟩, fun x H3 hy => ?_⟩
    obtain ⟨I3, c, g3, hc3, rx⟩ := itd.yld I2 H2 i x H3 s2.sub hold hlt hy
    have s3 := (s2.grow g3).nox
    obtain ⟨cl2, tu⟩ := turn i c e2 acc hc3 w2
    refine ⟨c, I3, e2, _, _, fun p hp j q m => nD acc p hp j q (hsl j m), s3, rx, tu, fun σ4 e4 h4 s4 so => ?_⟩
    have sw : wipe σ4 vs = wipe σ vs := by
      have z := wipe_same (vs := vs) (σ := L2.wipe σ vs) (σ' := σ4) ⟨so.1, fun j hj => so.2 j fun m => hj (hsl j m)⟩
      rw [z]
      exact wipe_same (vs := vs) ⟨wipe_length .., fun j hj => wipe_out hj⟩
    have ww : ∀ e : En, wipeE (wipeE e vs) vs = wipeE e vs := fun e => by
      refine List.ext_getElem? fun i => ?_
      by_cases hi : i ∈ vs
      · cases q : (wipeE e vs)[i]? with
        | none => rw [List.getElem?_eq_none_iff] at q ⊢; rw [wipeE_len]; exact q
        | some o =>
          cases o with
          | some t => exact absurd hi (wipeE_some q).2
          | none =>
            cases q2 : (wipeE (wipeE e vs) vs)[i]? with
            | none =>
              rw [List.getElem?_eq_none_iff, wipeE_len] at q2
              have := (List.getElem?_eq_some_iff.mp q).1
              omega
            | some o2 =>
              cases o2 with
              | none => rfl
              | some t => exact absurd hi (wipeE_some q2).2
      · exact wipeE_out hi
    refine ⟨sw, I3, e4, _, _, s4, h4, fun b e5 I5 H5 h5 s5 => ?_⟩
    cases b with
    | false =>
      have s6 := s5.unnox.wipe (vs := vs) (nD acc)
      rw [sw] at s6
      exact ⟨acc, I5, _, by omega, h5, s6, fun z => by omega, ww _⟩
    | true =>
      refine ⟨I5, e5, _, _, s5, h5, fun y r e6 I6 H6 h6 s6 => ?_⟩
      obtain ⟨d, e7, hf, q2⟩ := h6
      obtain ⟨I7, _, s7⟩ := s6.unnox.frz hf
      have ry : Rep F.K I7 y d := ST.temp (qs := []) (t := .imm d) s7
      have s8 := ST.weak s7
      have rD : EntR F.K I7 H6 (.ref D) (.own D (.lst acc)) := ST.temp (ps := ps ++ qs) (qs := []) s8
      obtain ⟨_, _, xs, hx, rr⟩ := rD
      have lx := rr.len
      refine ⟨xs, hx, by rw [lx]; exact Nat.lt_of_le_of_lt (m := 1000000) (by omega) (by decide), acc ++ [d], I7, _, by simp; omega, q2, ?_, fun z => by omega, ww _⟩
      have s9 := ST.mutT (ps := ps ++ qs) (qs := []) (d' := .lst (acc ++ [d])) (o := .lst (xs ++ [y])) s8 ⟨xs ++ [y], upd_same, rr.app (.cons ry .nil)⟩
      have s10 := s9.wipe (vs := vs) (nD _)
      rw [sw] at s10
      exact s10
  · have hi' : i = ds.length := by omega
    subst hi'
    refine .inl ⟨itd.stop I2 H2 s2.sub hold, ?_⟩
    rw [← wE2] at s2
    have z := ST.drop (s2.unwipe (nD acc))
    rw [wE2] at z
    exact k _ _ _ I2 H2 (fin e2 acc w2 D) z
theorem de_lcG (hc : X.calm = true) (hN : X.N.Nodup) (hi : DI X F tg iter w) (ok : BlkOk X.N X.env.scope scope own)
    (hg : ∀ (s : Shared) (H : Hp) (C : Addr) (cl : List (Str × Addr)) (fp : List Addr), DGt (X.blk s H scope (compEnvC scope cl C X.env) fp) F.nox tg g sl) (ht : ∀ (s : Shared) (H : Hp) (C : Addr) (cl : List (Str × Addr)) (fp : List Addr), DTs (X.blk s H scope (compEnvC scope cl C X.env) fp) F.nox ifs tt)
    (he : ∀ (s : Shared) (H : Hp) (C : Addr) (cl : List (Str × Addr)) (fp : List Addr), DE (X.blk s H scope (compEnvC scope cl C X.env) fp) F.nox elt f) (hsl : (sl.all fun j => (own.map (·.2)).contains j) = true) (hs : ∀ x, foldedSetIterable iter X.env x = pure x := by intro _; rfl) :
    DE X F (.ListComp elt [⟨tg, iter, ifs, 0⟩] scope pos) (eLcG w g tt f (own.map (·.2))) := by
  obtain ⟨wi, pi, di⟩ := hi
  exact ⟨_, pe_lc hc hN pi ok (fun s H C cl fp => (hg s H C cl fp).tof) (fun s H C cl fp => (ht s H C cl fp).tof) (fun s H C cl fp => (he s H C cl fp).tof) hs, DT.lcG di fun j hj => List.contains_iff_mem.mp (List.all_eq_true.mp hsl j hj)⟩
theorem ds_setLcG {i : Nat} {y : Str} {py spos : Pos} (hc : X.calm = true) (hN : X.N.Nodup) (hy : X.N[i]? = some y) (hyl : X.env.scope.names.lookup y = some .local)
    (hsw : swapsWith (.ListComp elt [⟨tg, iter, ifs, 0⟩] scope pos) (some (.Name y py)) spos.line X.env = pure true) (hi : DI X F tg iter w) (ok : BlkOk X.N X.env.scope scope own)
    (hg : ∀ (s : Shared) (H : Hp) (C : Addr) (cl : List (Str × Addr)) (fp : List Addr), DGt (X.blk s H scope (compEnvC scope cl C X.env) fp) F.nox tg g sl) (ht : ∀ (s : Shared) (H : Hp) (C : Addr) (cl : List (Str × Addr)) (fp : List Addr), DTs (X.blk s H scope (compEnvC scope cl C X.env) fp) F.nox ifs tt)
    (he : ∀ (s : Shared) (H : Hp) (C : Addr) (cl : List (Str × Addr)) (fp : List Addr), DE (X.blk s H scope (compEnvC scope cl C X.env) fp) F.nox elt f) (hsl : (sl.all fun j => (own.map (·.2)).contains j) = true) (hs : ∀ x, foldedSetIterable iter X.env x = pure x := by intro _; rfl) :
    DS X F (.Assign [.Name y py] (.ListComp elt [⟨tg, iter, ifs, 0⟩] scope pos) spos) (sSet i (eLcG w g tt f (own.map (·.2)))) := by
  obtain ⟨wi, pi, di⟩ := hi
  refine ⟨_, ps_setLc hc hN hy hyl hsw pi ok (fun s H C cl fp => (hg s H C cl fp).tof) (fun s H C cl fp => (ht s H C cl fp).tof) (fun s H C cl fp => (he s H C cl fp).tof) hs, fun σ I H e ps d D hp s h k => ?_⟩
  refine DT.lcG di (fun j hj => List.contains_iff_mem.mp (List.all_eq_true.mp hsl j hj)) σ I H e ps _ _ s h fun x r e1 I1 H1 h1 s1 => ?_
  obtain ⟨e2, ha, h2⟩ := h1
  obtain ⟨I2, s2⟩ := s1.asg (hp.no _) ha
  exact k.nx _ I2 H1 e2 h2 s2
theorem s_lcG {e : En} {P : Rv → En → Prop} {vs : List Nat} (k : w e fun ds e1 => clearB e1 vs = true ∧ ds.length ≤ 1000000 ∧ ∃ W : Nat → En → List D → Prop, W 0 e1 [] ∧
  (∀ i c e2 acc, ds[i]? = some c → W i e2 acc → clearB e2 vs = true ∧ g c e2 fun e3 => tt e3 fun b e4 => if b = true then f e4 fun r e5 => ∃ d e6, frz e5 r = some (d, e6) ∧ W (i + 1) (wipeE e6 vs) (acc ++ [d]) else W (i + 1) (wipeE e4 vs) acc) ∧
  ∀ e2 acc, W ds.length e2 acc → ∀ a, P (.ent (.own a (.lst acc))) e2) : eLcG w g tt f vs e P := k
end
/-! ### far boards, the hand -/
abbrev ptD (z : Int × Int) : PyData := .tuple [.int z.1, .int z.2]
theorem ptD_ok (z : Int × Int) : okD 1 (ptD z) = true := by simp [okD, okDs]
theorem ptDs_ok {zs : List (Int × Int)} (hz : zs.length ≤ 1000000) : okD 2 (.list (zs.map ptD)) = true := by
  rw [okD, Bool.and_eq_true]
  refine ⟨by simpa using hz, ?_⟩
  exact okDs_all fun d hd => by
    obtain ⟨z, _, rfl⟩ := List.mem_map.mp hd
    exact ptD_ok z
theorem ptD_any {z : Int × Int} {zs : List (Int × Int)} (h : z ∈ zs) : (zs.map ptD).any (fun d => PyData.eqv d (ptD z)) = true :=
  List.any_eq_true.mpr ⟨ptD z, List.mem_map.mpr ⟨z, h, rfl⟩, okD_refl (ptD_ok z)⟩
theorem dp_pt {K : PySem.W.Frag} {H : Hp} {a : Addr} {z : Int × Int} (h : H a = some (.tup (ptV z))) : Dp K H (.ref a) (ptD z) := .tup (SqT.of h) (.cons (.int _) (.cons (.int _) .nil))
theorem dp_pts {K : PySem.W.Frag} {H : Hp} : ∀ {as : List Addr} {zs : List (Int × Int)}, TupsAt H as (zs.map ptV) → DpAll K H (as.map V.ref) (zs.map ptD)
  | [], [], _ => .nil
  | [], _ :: _, h => by cases h
  | _ :: _, [], h => by cases h
  | a :: as, z :: zs, h => by
    cases h with
    | cons h1 h2 => exact .cons (dp_pt h1) (dp_pts h2)
theorem r_notInD {K : PySem.W.Frag} {H : Hp} {Q : VK} {x y : V} {d : PyData} {ds : List PyData} (h1 : Dp K H x d) (h2 : Dp K H y (.list ds)) (s1 : SeqAt.shaped d = true) (s2 : SeqAt.shaped (.list ds) = true) (q : Q (.bl (!ds.any fun z => PyData.eqv z d)) H) : rNotInD K x y H Q := ⟨d, ds, h1, h2, s1, s2, q⟩
def spFar : Sp := fun vs H Q _ => ∃ (p c : Addr) (n : Nat) (most lim : Int), vs = [.ref p, .int most, .int lim] ∧ HandAt H p c n ∧ n < 800000000 ∧ 0 ≤ most ∧ most ≤ 100 ∧ 0 < lim ∧
  ∀ (w h : Int) (ms : List Mir) (l q : Addr) (H' : Hp), 0 < w → 0 < h → (1 < w ∨ 1 < h) → GoodMs w h ms → ms.length ≤ 100 → H l = none → MsAt H' l ms → H' q = some (.tup [.int w, .int h, .ref l]) → HandAt H' p c (n + 10000) → Keep2 p c H H' → Q (.ref q) H'
def spHand (K : PySem.W.Frag) : Sp := fun vs H Q _ => ∃ (a : Addr) (ns : List Int), vs = [.ref a] ∧ SqL K H a (ns.map V.int) ∧ ns.length ≤ 63 ∧
  ∀ (p c : Addr) (H' : Hp), H p = none → H c = none → HandAt H' p c 0 → Same H H' → Q (.ref p) H'
section
variable {P : Program} {w : World} {K : PySem.W.Frag} {mg : Str → Option Value} {base : Heap} {A : Ad}
theorem ok__law_far (T : Txt K mg A) : FnOk P w K mg base CX0 4 A.f__law_far A.d__law_far P__law_far spFar := by
  have G__law_take := ok__law_take (P := P) (w := w) (base := base) T
  have G__law_big := ok__law_big (P := P) (w := w) (base := base) T
  have G__law_spot := ok__law_spot (P := P) (w := w) (base := base) T
  refine T.F__law_far.ok sc__law_far (fun vs H Q E h => ?_) (fun cdv A' outer s H vs Q E hr h => ?_)
  · obtain ⟨p, c, n, m, lm, rfl, _⟩ := h
    rfl
  · obtain ⟨p, c, n, most, lim, rfl, hh, hn, hm0, hm1, hl0, kk⟩ := h
    have hu65 : (A'.deeper (envOfC "_law_far" (defScope s__law_far) s.heap.objs.size A.f__law_far cdv)).units + 65 < cLine := by have := hr.un; omega
    refine ⟨_, (pss_cons (ps_set (i := 3) sc__law_far.nd rfl (Or.inl rfl) (pe_lst (pa_cons (pe_op op_add pe_int (pe_call G__law_big (hr.mono (by first | decide | omega)) rfl T.g__law_big T.k__law_big T.b__law_big .nil pass0 (pa_cons (pv 0) (pa_cons (pv 2) pa_nil)))) (pa_cons (pe_op op_add pe_int (pe_call G__law_big (hr.mono (by first | decide | omega)) rfl T.g__law_big T.k__law_big T.b__law_big .nil pass0 (pa_cons (pv 0) (pa_cons (pv 2) pa_nil)))) pa_nil))))
(pss_cons (ps_set (i := 4) sc__law_far.nd rfl (Or.inl rfl) (pe_call G__law_take (hr.mono (by first | decide | omega)) rfl T.g__law_take T.k__law_take T.b__law_take .nil pass0 (pa_cons (pv 0) (pa_cons pe_int pa_nil))))
(pss_cut (ps_if (pt_cmpR op_lt (pv 4) pe_int (nomark _))
(pss_one (ps_asg (pe_op op_add pe_int (pe_call G__law_take (hr.mono (by first | decide | omega)) rfl T.g__law_take T.k__law_take T.b__law_take .nil pass0 (pa_cons (pv 0) (pa_cons pe_int pa_nil)))) (pg_sub (pv 3) (pv 4) set_list)))
pss_nil)
(pss_cut (ps_if (pt_cmpR (op_eqD hr.units) (pv 3) (pe_lst (pa_cons pe_int (pa_cons pe_int pa_nil))) (nomark _))
(pss_one (ps_asg pe_int (pg_sub (pv 3) pe_int set_list)))
pss_nil)
(pss_cons (ps_set (i := 5) sc__law_far.nd rfl (Or.inl rfl) (pe_lst pa_nil))
(pss_cons (ps_for PassesOwn.never rfl (pi_range1 (by rfl) T.n_range (pa_cons (pe_call G__law_take (hr.mono (by first | decide | omega)) rfl T.g__law_take T.k__law_take T.b__law_take .nil pass0 (pa_cons (pv 0) (pa_cons (pe_op op_add (pv 1) pe_int) pa_nil))) pa_nil)) (pg_name (i := 6) sc__law_far.nd rfl (Or.inl rfl))
(pss_cons (ps_asg (pe_call G__law_spot (hr.mono (by first | decide | omega)) rfl T.g__law_spot T.k__law_spot T.b__law_spot .nil pass0 (pa_cons (pv 0) (pa_cons (pe_ix ix_list (pv 3) pe_int (fun _ _ => rfl)) (pa_cons (pe_ix ix_list (pv 3) pe_int (fun _ _ => rfl)) pa_nil)))) (pg_tup rfl (pgs_cons (pg_name (i := 7) sc__law_far.nd rfl (Or.inl rfl)) (pgs_cons (pg_name (i := 8) sc__law_far.nd rfl (Or.inl rfl)) pgs_nil))))
(pss_one (ps_if (pt_cmpR (op_notInD hu65) (pe_tup (pa_cons (pv 7) (pa_cons (pv 8) pa_nil))) (pe_lc (own := [("_law_a", 9), ("_law_b", 10), ("_law_kind", 11)]) (g := gTup K 3 (gCons (gName 9) (gCons (gName 10) (gCons (gName 11) gNil)))) (tt := tYes) (by rfl) sc__law_far.nd (pi_list (pv 5)) (blkOk_by (own := [("_law_a", 9), ("_law_b", 10), ("_law_kind", 11)]) (N := N__law_far) (sc := defScope s__law_far) (by decide +kernel)) (fun _ _ _ _ _ => by exact (pg_tup rfl (pgs_cons (pg_name (i := 9) sc__law_far.nd rfl (Or.inl rfl)) (pgs_cons (pg_name (i := 10) sc__law_far.nd rfl (Or.inl rfl)) (pgs_cons (pg_name (i := 11) sc__law_far.nd rfl (Or.inl rfl)) pgs_nil))))) (fun _ _ _ _ _ => by exact pts_nil) (fun _ _ _ _ _ => by exact (pe_tup (pa_cons (pv 9) (pa_cons (pv 10) pa_nil))))) (by rfl))
(pss_one (ps_expr (pe_bm PySem.F.plainAttrs_list PySem.F.slot_list_insert PySem.F.type_list_insert m_insert (pv 5) (pa_cons (pe_call G__law_take (hr.mono (by first | decide | omega)) rfl T.g__law_take T.k__law_take T.b__law_take .nil pass0 (pa_cons (pv 0) (pa_cons (pe_op op_add (pe_callB c_len (by rfl) T.n_len (by decide +kernel) (pa_cons (pv 5) pa_nil)) pe_int) pa_nil))) (pa_cons (pe_tup (pa_cons (pv 7) (pa_cons (pv 8) (pa_cons (pe_ix ix_list (pe_lst (pa_cons pe_str (pa_cons pe_str pa_nil))) (pe_call G__law_take (hr.mono (by first | decide | omega)) rfl T.g__law_take T.k__law_take T.b__law_take .nil pass0 (pa_cons (pv 0) (pa_cons pe_int pa_nil))) (fun _ _ => rfl)) pa_nil)))) pa_nil)))))
pss_nil))))
(pss_one (ps_ret (pe_tup (pa_cons (pe_ix ix_list (pv 3) pe_int (fun _ _ => rfl)) (pa_cons (pe_ix ix_list (pv 3) pe_int (fun _ _ => rfl)) (pa_cons (pv 5) pa_nil)))))))))))), ?_⟩
    walk_at "rs"
    refine ⟨p, c, n, _, rfl, hh, by omega, hl0, fun b1 H1 b10 b11 hh1 kp1 => ?_⟩
    walk_at "rs"
    refine ⟨p, c, n + 4, _, rfl, hh1, by omega, hl0, fun b2 H2 b20 b21 hh2 kp2 => ?_⟩
    walk_at "rs"
    intro sz hsz
    have hsz0 : H sz = none := (kp1.trans kp2).free hh2 hsz
    walk_at "rs"
    obtain ⟨nsp, nsc⟩ := hh2.ne hsz
    refine ⟨p, c, n + 8, _, rfl, hh2.new hsz, by omega, by decide, by decide, fun sm H3 sm0 sm1 hh3 kp3 => ?_⟩
    have hs3 := kp3.at_new hh2 hsz
    have kp03 : Keep2 p c H H3 := (kp1.trans kp2).trans ((Keep2.new hsz).trans kp3)
    walk_at "rs"
    -- the sizes behind the first if
    refine ⟨fun σ H4 => ∃ a b : Int, σ = [some (.ref p), some (.int most), some (.int lim), some (.ref sz), some (.int sm), none, none, none, none, none, none, none] ∧ H4 sz = some (.lst [.int a, .int b]) ∧ 0 < a ∧ 0 < b ∧ HandAt H4 p c (n + 10) ∧ Keep2 p c H H4, ?_, ?_⟩
    · walk_at "rs"
      refine r_ite (fun c1 => ?_) (fun c1 => ?_)
      · walk_at "rs"
        refine ⟨p, c, n + 9, _, rfl, hh3, by omega, by decide, by decide, fun r H4 r0 r1 hh4 kp4 => ?_⟩
        have hs4 := kp4 sz _ hs3 nsp nsc
        obtain ⟨j, a, b, hj, hset, ha, hb⟩ : ∃ (j : Nat) (a b : Int), ixN 2 sm = some j ∧ ([V.int (1 + b1), V.int (1 + b2)] : List V).set j (.int (1 + r)) = [.int a, .int b] ∧ 0 < a ∧ 0 < b := by
          have e : sm = 0 ∨ sm = 1 := by omega
          rcases e with e | e
          · subst e; exact ⟨0, 1 + r, 1 + b2, rfl, rfl, by omega, by omega⟩
          · subst e; exact ⟨1, 1 + b1, 1 + r, rfl, rfl, by omega, by omega⟩
        walk_at "rs"
        refine ⟨a, b, rfl, ?_, ha, hb, hh4.mut nsp nsc |>.mono (by omega), (kp03.trans kp4).mut hsz0⟩
        rw [upd_same, hset]
      · walk_at "rs"
        exact ⟨_, _, rfl, hs3, by omega, by omega, hh3.mono (by omega), kp03⟩
    · rintro σ H4 ⟨a, b, rfl, hs4, ha, hb, hh4, kp4⟩
      refine ⟨fun σ H5 => ∃ a b : Int, σ = [some (.ref p), some (.int most), some (.int lim), some (.ref sz), some (.int sm), none, none, none, none, none, none, none] ∧ H5 sz = some (.lst [.int a, .int b]) ∧ 0 < a ∧ 0 < b ∧ (1 < a ∨ 1 < b) ∧ HandAt H5 p c (n + 10) ∧ Keep2 p c H H5, ?_, ?_⟩
      · walk_at "rs"
        intro u hu
        have d1 : Dp K (upd H4 u (.lst [.int 1, .int 1])) (.ref sz) (.list [.int a, .int b]) := .lst (SqL.of (by walk_at "hl")) (.cons (.int _) (.cons (.int _) .nil))
        have d2 : Dp K (upd H4 u (.lst [.int 1, .int 1])) (.ref u) (.list [.int 1, .int 1]) := .lst (SqL.of upd_same) (.cons (.int _) (.cons (.int _) .nil))
        refine ⟨_, _, d1, d2, okD_shaped (n := 1) (by simp [okD, okDs]) (by decide), okD_shaped (n := 1) (by simp [okD, okDs]) (by decide), ?_⟩
        walk_at "rs"
        have ev : PyData.eqv (.list [.int a, .int b]) (.list [.int 1, .int 1]) = (a == 1 && (b == 1 && true)) := by simp only [PyData.eqv, PyData.eqvAll]
        rw [ev]
        have husz : u ≠ sz := (ne_of_none hs4 hu).symm
        refine r_iteB (fun c1 => ?_) (fun c1 => ?_)
        · walk_at "rs"
          refine ⟨2, b, rfl, upd_same, by omega, hb, by omega, (hh4.new hu).mut nsp nsc, (kp4.trans (Keep2.new hu)).mut hsz0⟩
        · walk_at "rs"
          refine ⟨a, b, rfl, by walk_at "hl", ha, hb, ?_, hh4.new hu, kp4.trans (Keep2.new hu)⟩
          by_cases e1 : a = 1
          · by_cases e2 : b = 1
            · subst e1; subst e2; simp at c1
            · omega
          · omega
      · rintro σ H5 ⟨a, b, rfl, hs5, ha, hb, hab, hh5, kp5⟩
        walk_at "rs"
        intro l hl
        have hl0 : H l = none := kp5.free hh5 hl
        obtain ⟨nlp, nlc⟩ := hh5.ne hl
        have hlsz : l ≠ sz := (ne_of_none hs5 hl).symm
        walk_at "rs"
        refine ⟨p, c, n + 10, _, rfl, hh5.new hl, by omega, by omega, by omega, fun m H6 m0 m1 hh6 kp6 => ?_⟩
        have kp06 : Keep2 p c H H6 := kp5.trans ((Keep2.new hl).trans kp6)
        have hl6 := kp6.at_new hh5 hl
        have hs6 : H6 sz = some (.lst [.int a, .int b]) := kp6 sz _ (by walk_at "hl") nsp nsc
        walk_at "rs"
        refine ⟨m, rfl, by omega, by omega, for_range (lo := 0) (n := m.toNat) (fun i σ H7 => ∃ (ms : List Mir) (as : List Addr) (v6 v7 v8 : Option V), σ = [some (.ref p), some (.int most), some (.int lim), some (.ref sz), some (.int sm), some (.ref l), v6, v7, v8, none, none, none] ∧
          HandAt H7 p c (n + 11 + 20 * i) ∧ H7 l = some (.lst (as.map V.ref)) ∧ TupsAt H7 as (ms.map mV) ∧ H7 sz = some (.lst [.int a, .int b]) ∧ GoodMs a b ms ∧ ms.length ≤ i ∧ Keep2 p c H H7) ?_ ?_ ?_⟩
        · exact ⟨[], [], none, none, none, rfl, hh6, hl6, .nil, hs6, ⟨fun _ h => by simp at h, fun _ h => by simp at h, List.nodup_nil⟩, Nat.le_refl _, kp06⟩
        · rintro i σ H7 hi ⟨ms, as, v6, v7, v8, rfl, hh7, hl7, t7, hs7, gd, hml, kp7⟩
          have hlas : as.length = ms.length := by rw [Paired.length t7, List.length_map]
          walk_at "rs"
          refine ⟨p, c, n + 11 + 20 * i, a, b, rfl, hh7, by omega, ha, hb, hab, fun x y q H8 hxy hq0 hq hh8 kp8 => ?_⟩
          have hl8 := kp8 l _ hl7 nlp nlc
          have t8 := kp8.tups hh7 t7
          have hs8 := kp8 sz _ hs7 nsp nsc
          walk_at "rs"
          intro q2 hq2
          have hl8' : (upd H8 q2 (.tup [.int x, .int y])) l = some (.lst (as.map V.ref)) := by walk_at "hl"
          walk_at "rs"
          refine ⟨l, rfl, ⟨_, SqL.of hl8'⟩, fun D hD => lc_list (K := K) (a := l) (xs := as.map V.ref) (fun j H9 => Same (upd H8 q2 (.tup [.int x, .int y])) H9 ∧ ∃ bs : List Addr, H9 D = some (.lst (bs.map V.ref)) ∧ TupsAt H9 bs (((ms.take j).map mK).map ptV)) ?_ ?_ ?_ ?_⟩
          · exact ⟨Same.new hD, [], upd_same, .nil⟩
          · rintro j H9 _ ⟨sm9, _⟩
            exact SqL.of (sm9 _ _ hl8')
          · rintro j v H9 hj ⟨sm9, bs, hD9, t9⟩
            obtain ⟨e, xs, rfl, he, hx, hte⟩ := ((t8.new (o := .tup [.int x, .int y]) hq2).keep fun b xs h => sm9 b _ h).get hj
            obtain ⟨z, hz, rfl⟩ : ∃ z, ms[j]? = some z ∧ xs = mV z := by
              rw [List.getElem?_map] at hx
              cases e : ms[j]? with
              | none => rw [e] at hx; cases hx
              | some z => rw [e] at hx; exact ⟨z, rfl, (Option.some.inj hx).symm⟩
            walk_at "rs"
            refine ⟨rfl, ?_⟩
            walk_at "rs"
            intro u hu
            have hDu : D ≠ u := ne_of_none hD9 hu
            have hbl : bs.length ≤ ms.length := by rw [Paired.length t9, List.length_map, List.length_map, List.length_take]; omega
            have hbz : (bs.map V.ref).length < 1000 := by rw [List.length_map]; omega
            refine ⟨bs.map V.ref, by walk_at "hl", by walk_at "sz", (sm9.trans (Same.new hu)).mut hD, bs ++ [u], by rw [upd_same, List.map_append]; rfl, ?_⟩
            have tk : ms.take (j + 1) = ms.take j ++ [z] := by rw [List.take_add_one, hz]; rfl
            rw [tk, List.map_append, List.map_append]
            refine TupsAt.mut (xs := bs.map V.ref) (Paired.snoc (t9.new hu) upd_same) (by walk_at "hl")
          · rintro H9 ⟨sm9, bs, hD9, t9⟩
            rw [List.length_map, hlas, List.take_length] at t9
            have hh9 : HandAt H9 p c (n + 11 + 20 * i + 9) := (hh8.new hq2).same sm9
            have kp9 : Keep2 p c H H9 := (kp7.trans kp8).trans ((Keep2.new hq2).trans (Keep2.same sm9))
            have hl9 := sm9 _ _ hl8'
            have hs9 : H9 sz = some (.lst [.int a, .int b]) := sm9 _ _ (by walk_at "hl")
            have tm9 := (t8.new (o := .tup [.int x, .int y]) hq2).keep fun b xs h => sm9 b _ h
            have hq29 : H9 q2 = some (.tup (ptV (x, y))) := sm9 _ _ upd_same
            refine r_notInD (dp_pt hq29) (.lst (SqL.of hD9) (dp_pts t9)) (okD_shaped (ptD_ok (x, y)) (by decide)) (okD_shaped (ptDs_ok (by rw [List.length_map]; omega)) (by decide)) ?_
            walk_at "rs"
            refine r_iteB (fun c1 => ?_) (fun c1 => ?_)
            · have hnin : mK (x, y, ("" : Str)) ∉ ms.map mK := fun hm => by
                rw [show mK (x, y, ("" : Str)) = (x, y) from rfl] at hm
                rw [ptD_any hm] at c1
                cases c1
              walk_at "rs"
              refine ⟨p, c, n + 11 + 20 * i + 9, _, rfl, hh9, by omega, by rw [List.length_map]; omega, by rw [List.length_map]; omega, fun r3 H10 r30 r31 hh10 kp10 => ?_⟩
              have hl10 := kp10 l _ hl9 nlp nlc
              have hs10 := kp10 sz _ hs9 nsp nsc
              have t10 := kp10.tups hh9 tm9
              walk_at "rs"
              intro kl hkl
              walk_at "rs"
              refine ⟨p, c, n + 11 + 20 * i + 10, _, rfl, hh10.new hkl, by omega, by decide, by decide, fun r4 H11 r40 r41 hh11 kp11 => ?_⟩
              obtain ⟨kd, hkd, eat⟩ := kind_at r40 r41
              have hkl11 := kp11.at_new hh10 hkl
              have kp1011 : Keep2 p c H10 H11 := (Keep2.new hkl).trans kp11
              have hl11 := kp1011 l _ hl10 nlp nlc
              have hs11 := kp1011 sz _ hs10 nsp nsc
              have t11 := kp1011.tups hh10 t10
              walk_at "rs"
              intro u hu
              have hlz : (as.map V.ref).length < 1000 := by rw [List.length_map]; omega
              have hul : u ≠ l := (ne_of_none hl11 hu).symm
              have hls : sz ≠ l := hlsz.symm
              walk_at "rs"
              refine ⟨ms.take r3.toNat ++ [(x, y, kd)] ++ ms.drop r3.toNat, as.take r3.toNat ++ [u] ++ as.drop r3.toNat, _, _, _, rfl, ?_, ?_, ?_, ?_, gd.ins1 (m := (x, y, kd)) _ hxy hkd hnin, ?_, ?_⟩
              · exact ((hh11.new hu).mut nlp nlc).mono (by omega)
              · rw [upd_same, map_ins]
              · exact TupsAt.mut (xs := as.map V.ref) (TupsAt.ins (m := (x, y, kd)) (t11.new hu) upd_same _) (by walk_at "hl")
              · walk_at "hl"
              · have := (ins_perm ms r3.toNat (x, y, kd)).length_eq
                rw [this, List.length_cons]
                omega
              · exact (((kp9.trans kp10).trans kp1011).trans (Keep2.new hu)).mut hl0
            · walk_at "rs"
              exact ⟨ms, as, _, _, _, rfl, hh9.mono (by omega), hl9, tm9, hs9, gd, by omega, kp9⟩
        · rintro σ H7 ⟨ms, as, v6, v7, v8, rfl, hh7, hl7, t7, hs7, gd, hml, kp7⟩
          walk_at "rs"
          intro q hq
          exact kk a b ms l q _ ha hb hab gd (by omega) hl0 ⟨as, by walk_at "hl", t7.new hq⟩ upd_same ((hh7.new hq).mono (by omega)) (kp7.trans (Keep2.new hq))
end
/-! ### the hand's defs, over data -/
theorem FnOk.lift {P : Program} {w : World} {K : PySem.W.Frag} {mg : Str → Option Value} {base : Heap} {CX : CXT} {k : Nat} {f : Addr} {fd : FuncData} {ps : List Str} {sp sp' : Sp} (F : FnOk P w K mg base CX0 k f fd ps sp)
    (h : ∀ vs H Q E, sp' vs H Q E → sp vs H Q E) : FnOk P w K mg base CX k f fd ps sp' :=
  ⟨fun vs H Q E q => F.len vs H Q E (h _ _ _ _ q), fun A outer s H args us vs Q E hr he hb hv hs => codeAny_mono (F.run A outer s H args us vs Q E hr he hb hv (h _ _ _ _ hs)) fun r s' q => by
    cases r with
    | ok fl => cases fl <;> exact q
    | error e => exact False.elim q⟩
abbrev Ent.int (i : Int) : Ent := .imm (.int i)
abbrev mirD (m : Mir) : D := .tup [.int m.1, .int m.2.1, .str m.2.2]
abbrev mirsD (ms : List Mir) : D := .lst (ms.map mirD)
section
variable {K : PySem.W.Frag} {I H I' H' : Hp} {vs : List V} {rest : List Ent} {p c : Addr} {n n' : Nat} {x : V} {t : Ent}
/-- what a call with the hand ahead leaves -/
theorem hand_out (env : EnvR K I H (vs.map some) ((Ent.hand p c n :: rest).map some)) (hr : ∀ t ∈ rest, ∃ d, t = .imm d) (kp : Keep2 p c H H') (tok : TokAt H' p c n') (le : Le I I') (new : ∀ a o, I' a = some o → I a = some o ∨ FreeT H a)
    (r : EntR K I' H' x t) (nt : ∀ a ∈ t.adr, H a = none) : EnvR K I' H' (vs.map some ++ [some x]) ((Ent.hand p c n' :: rest).map some ++ [some t]) ∧ Step ((Ent.hand p c n :: rest).map some) I H ((Ent.hand p c n' :: rest).map some ++ [some t]) I' H' := by
  have adr0 : ∀ m : Nat, ∀ a, a ∈ adr ((Ent.hand p c m :: rest).map some) ↔ a = p ∨ a = c := fun m a => by
    rw [mem_adr]
    constructor
    · rintro ⟨i, u, q, ha⟩
      rw [List.getElem?_map] at q
      cases i with
      | zero => simp at q; subst q; simpa using ha
      | succ i =>
        rw [List.getElem?_cons_succ] at q
        cases z : rest[i]? with
        | none => rw [z] at q; cases q
        | some u' =>
          rw [z] at q
          cases q
          obtain ⟨d, rfl⟩ := hr u (List.mem_of_getElem? z)
          simp at ha
    · intro h
      exact ⟨0, .hand p c m, rfl, by simpa using h⟩
  have hp := env.has ((adr0 n p).mpr (.inl rfl))
  have hc := env.has ((adr0 n c).mpr (.inr rfl))
  have nI : ∀ a, (∃ o, H a = some o ∧ ∀ xs, o ≠ .tup xs) ∧ I a = none → I' a = none := fun a ⟨⟨o, q1, q2⟩, q3⟩ => by
    cases z : I' a with
    | none => rfl
    | some u =>
      rcases new a u z with w | w
      · rw [q3] at w; cases w
      · obtain ⟨xs, e⟩ := w o q1
        exact absurd e (q2 xs)
  have e1 : EnvR K I' H' (vs.map some) ((Ent.hand p c n' :: rest).map some) := by
    refine ⟨by have := env.len; simpa using this, fun i u q => ?_, fun i j u v a q1 q2 m1 m2 => ?_⟩
    · cases i with
      | zero =>
        simp at q
        subst q
        obtain ⟨y, y1, y2⟩ := env.at_ 0 (.hand p c n) rfl
        exact ⟨y, y1, y2.1, nI p hp, nI c hc, tok⟩
      | succ i =>
        obtain ⟨y, y1, y2⟩ := env.at_ (i + 1) u q
        rw [List.getElem?_map, List.getElem?_cons_succ] at q
        cases z : rest[i]? with
        | none => rw [z] at q; cases q
        | some u' =>
          rw [z] at q
          cases q
          obtain ⟨d, rfl⟩ := hr u (List.mem_of_getElem? z)
          exact ⟨y, y1, Rep.mono le y2⟩
    · cases i with
      | zero =>
        cases j with
        | zero => rfl
        | succ j => exact env.sep 0 (j + 1) (.hand p c n) v a rfl q2 (by simp at q1; subst q1; simpa using m1) m2
      | succ i =>
        cases j with
        | zero => exact env.sep (i + 1) 0 u (.hand p c n) a q1 rfl m1 (by simp at q2; subst q2; simpa using m2)
        | succ j => exact env.sep (i + 1) (j + 1) u v a q1 q2 m1 m2
  refine ⟨e1.push r fun a ha z => ?_, ⟨le, fun a o q na => ?_, fun a ha => ?_, fun a o q => ?_⟩⟩
  · have f := nt a ha
    rcases (adr0 n' a).mp z with rfl | rfl
    · obtain ⟨⟨o, q, _⟩, _⟩ := hp; rw [f] at q; cases q
    · obtain ⟨⟨o, q, _⟩, _⟩ := hc; rw [f] at q; cases q
  · exact kp a o q (fun z => na ((adr0 n a).mpr (.inl z))) fun z => na ((adr0 n a).mpr (.inr z))
  · rcases mem_push.mp ha with z | ⟨u, e, z⟩
    · exact .inl ((adr0 n a).mpr ((adr0 n' a).mp z))
    · cases e
      exact .inr (nt a z)
  · rcases new a o q with w | w
    · exact .inl w
    · exact .inr (.inr w)
theorem hand_sub (s : Sub I H) (ip : I p = none) (ic : I c = none) (kp : Keep2 p c H H') : Sub I H' := fun a o q => kp a o (s a o q) (fun z => by rw [z, ip] at q; cases q) fun z => by rw [z, ic] at q; cases q
/-- the arguments: the hand, then numbers -/
theorem hand_in1 {lim : Int} (env : EnvR K I H (vs.map some) ([Ent.hand p c n, Ent.int lim].map some)) : vs = [.ref p, .int lim] ∧ I p = none ∧ I c = none ∧ TokAt H p c n := by
  have l := env.len
  match vs, l with
  | [a, b], _ =>
    obtain ⟨y, y1, y2, y3, y4, y5⟩ := env.at_ 0 (.hand p c n) rfl
    obtain ⟨z, z1, z2⟩ := env.at_ 1 (.int lim) rfl
    simp at y1 z1
    subst y1 y2 z1
    cases z2
    exact ⟨rfl, y3, y4, y5⟩
theorem hand_in2 {i j : Int} (env : EnvR K I H (vs.map some) ([Ent.hand p c n, Ent.int i, Ent.int j].map some)) : vs = [.ref p, .int i, .int j] ∧ I p = none ∧ I c = none ∧ TokAt H p c n := by
  have l := env.len
  match vs, l with
  | [a, b, d], _ =>
    obtain ⟨y, y1, y2, y3, y4, y5⟩ := env.at_ 0 (.hand p c n) rfl
    obtain ⟨z, z1, z2⟩ := env.at_ 1 (.int i) rfl
    obtain ⟨w, w1, w2⟩ := env.at_ 2 (.int j) rfl
    simp at y1 z1 w1
    subst y1 y2 z1 w1
    cases z2
    cases w2
    exact ⟨rfl, y3, y4, y5⟩
end
theorem imms_int1 {i : Int} : ∀ t ∈ [Ent.int i], ∃ d, t = .imm d := fun t h => by simp at h; exact ⟨_, h⟩
theorem imms_int2 {i j : Int} : ∀ t ∈ [Ent.int i, Ent.int j], ∃ d, t = .imm d := fun t h => by simp at h; rcases h with h | h <;> exact ⟨_, h⟩
/-- tuples that are there are taken among the things that never change -/
theorem tups_in {K : PySem.W.Frag} {I H' : Hp} (s : Sub I H') {as : List Addr} {ds : List (List V)} (t : TupsAt H' as ds) {es : List (List D)} (re : ∀ J : Hp, Paired (fun xs cs => Reps K J xs cs) ds es) :
    ∃ I', Le I I' ∧ Sub I' H' ∧ (∀ a o, I' a = some o → I a = some o ∨ ∃ xs, H' a = some (.tup xs)) ∧ Reps K I' (as.map V.ref) (es.map D.tup) := by
  induction t generalizing es with
  | nil => cases re I; exact ⟨I, Le.refl, s, fun a o q => .inl q, .nil⟩
  | @cons a xs as ds h t ih =>
    cases es with
    | nil => cases re I
    | cons cs es =>
      obtain ⟨I1, l1, s1, n1, r1⟩ := ih (es := es) fun J => by cases re J; assumption
      have r0 : ∀ J, Reps K J xs cs := fun J => by cases re J; assumption
      by_cases q : I1 a = none
      · have le : Le I1 (upd I1 a (.tup xs)) := Le.new q
        refine ⟨upd I1 a (.tup xs), l1.trans le, fun b o z => ?_, fun b o z => ?_, .cons (.tup upd_same (r0 _)) (r1.mono le)⟩
        · by_cases hb : b = a
          · subst hb; rw [upd_same] at z; cases z; exact h
          · rw [upd_ne hb] at z; exact s1 b o z
        · by_cases hb : b = a
          · subst hb; exact .inr ⟨xs, h⟩
          · rw [upd_ne hb] at z; exact n1 b o z
      · obtain ⟨o, ho⟩ := Option.ne_none_iff_exists'.mp q
        have z := s1 a o ho
        rw [h] at z
        cases z
        exact ⟨I1, l1, s1, n1, .cons (.tup ho (r0 _)) r1⟩
theorem mirs_in {K : PySem.W.Frag} {I H' : Hp} (s : Sub I H') {l : Addr} {ms : List Mir} (t : MsAt H' l ms) : ∃ I' xs, Le I I' ∧ Sub I' H' ∧ (∀ a o, I' a = some o → I a = some o ∨ ∃ xs, H' a = some (.tup xs)) ∧ H' l = some (.lst xs) ∧ Reps K I' xs (ms.map mirD) := by
  obtain ⟨as, hl, tt⟩ := t
  obtain ⟨I', l1, s1, n1, r1⟩ := tups_in (K := K) s tt (es := ms.map fun m => [.int m.1, .int m.2.1, .str m.2.2]) fun J => by
    clear tt hl
    induction ms with
    | nil => exact .nil
    | cons m ms ih => exact .cons (.cons (.int _) (.cons (.int _) (.cons (.str _) .nil))) ih
  refine ⟨I', _, l1, s1, n1, hl, ?_⟩
  rw [List.map_map] at r1
  exact r1
/-- .. and back -/
theorem mirs_out {K : PySem.W.Frag} {I H : Hp} (s : Sub I H) : ∀ {ms : List Mir} {xs : List V}, Reps K I xs (ms.map mirD) → ∃ as, xs = as.map V.ref ∧ TupsAt H as (ms.map mV)
  | [], _, r => by cases r; exact ⟨[], rfl, .nil⟩
  | m :: ms, _, r => by
    rw [List.map_cons] at r
    cases r with
    | cons r1 r2 =>
      obtain ⟨as, rfl, t⟩ := mirs_out s r2
      cases r1 with
      | @tup a ys _ h rr =>
        cases rr with
        | cons q1 rr =>
          cases rr with
          | cons q2 rr =>
            cases rr with
            | cons q3 rr =>
              cases rr
              cases q1
              cases q2
              cases q3
              exact ⟨a :: as, rfl, .cons (s _ _ h) t⟩
def conTake : Con := fun es P _ => ∃ p c n lim, es = [.hand p c n, .int lim] ∧ n < 1000000000 ∧ 0 < lim ∧ lim < 1073741824 ∧ ∀ r : Int, 0 ≤ r → r < lim → P (.int r) [.hand p c (n + 1), .int lim]
def conSizes : Con := fun es P _ => ∃ p c n most, es = [.hand p c n, .int most] ∧ n < 900000000 ∧ 0 < most ∧ most < 1000000 ∧ ∀ a b : Int, 0 < a → 0 < b → a * b ≤ most → P (.imm (.tup [.int a, .int b])) [.hand p c (n + 3), .int most]
def conMirrors : Con := fun es P _ => ∃ p c n w h, es = [.hand p c n, .int w, .int h] ∧ n < 900000000 ∧ 0 < w ∧ 0 < h ∧ w * h ≤ 100 ∧ ∀ (ms : List Mir) (l : Addr), GoodMs w h ms → ms.length ≤ 200 → P (.own l (mirsD ms)) [.hand p c (n + 1000), .int w, .int h]
def conFar : Con := fun es P _ => ∃ p c n most lim, es = [.hand p c n, .int most, .int lim] ∧ n < 800000000 ∧ 0 ≤ most ∧ most ≤ 100 ∧ 0 < lim ∧
  ∀ (w h : Int) (ms : List Mir), 0 < w → 0 < h → (1 < w ∨ 1 < h) → GoodMs w h ms → ms.length ≤ 100 → P (.imm (.tup [.int w, .int h, mirsD ms])) [.hand p c (n + 10000), .int most, .int lim]
section
variable {K : PySem.W.Frag} {vs : List V} {H : Hp} {Q : VK} {E : XK}
theorem freeT_of {p c : Addr} {H H' : Hp} {a : Addr} (kp : Keep2 p c H H') (hp : ∃ xs, H p = some (.lst xs)) (hc : ∃ xs, H c = some (.lst xs)) {I : Hp} (tok : ∃ xs, H' p = some (.lst xs)) (tokc : ∃ xs, H' c = some (.lst xs)) {ys : List V} (h : H' a = some (.tup ys)) : FreeT H a := fun o q => by
  have ne1 : a ≠ p := fun z => by obtain ⟨xs, e⟩ := tok; rw [z, e] at h; cases h
  have ne2 : a ≠ c := fun z => by obtain ⟨xs, e⟩ := tokc; rw [z, e] at h; cases h
  have := kp a o q ne1 ne2
  rw [h] at this
  cases this
  exact ⟨ys, rfl⟩
theorem take_of (h : spD K conTake vs H Q E) : spTake vs H Q E := by
  obtain ⟨I, es, P, PX, sub, env, ⟨p, c, n, lim, rfl, hn, h0, h1, hP⟩, kq, _⟩ := h
  obtain ⟨rfl, ip, ic, tok⟩ := hand_in1 env
  refine ⟨p, c, n, lim, rfl, tok.at_, hn, h0, h1, fun r H' r0 r1 hh kp => ?_⟩
  obtain ⟨e1, s1⟩ := hand_out (t := .int r) (x := .int r) env imms_int1 kp ⟨hh⟩ Le.refl (fun _ _ q => .inl q) (.int r) fun a ha => by simp at ha
  exact kq _ _ _ I H' (hP r r0 r1) (hand_sub sub ip ic kp) e1 s1
theorem sizes_of (h : spD K conSizes vs H Q E) : spSizes vs H Q E := by
  obtain ⟨I, es, P, PX, sub, env, ⟨p, c, n, most, rfl, hn, h0, h1, hP⟩, kq, _⟩ := h
  obtain ⟨rfl, ip, ic, tok⟩ := hand_in1 env
  refine ⟨p, c, n, most, rfl, tok.at_, hn, h0, h1, fun a b q H' a0 b0 hab hq0 hq hh kp => ?_⟩
  have sub' := hand_sub sub ip ic kp
  have iq := sub.none hq0
  obtain ⟨e1, s1⟩ := hand_out (I' := upd I q (.tup [.int a, .int b])) (t := .imm (.tup [.int a, .int b])) (x := .ref q) env imms_int1 kp ⟨hh⟩ (Le.new iq) (fun b' o z => by
    by_cases hb : b' = q
    · subst hb; exact .inr (.of hq0)
    · rw [upd_ne hb] at z; exact .inl z) (.tup upd_same (.cons (.int _) (.cons (.int _) .nil))) fun a ha => by simp at ha
  refine kq _ _ _ _ H' (hP a b a0 b0 hab) (fun b' o z => ?_) e1 s1
  by_cases hb : b' = q
  · subst hb; rw [upd_same] at z; cases z; exact hq
  · rw [upd_ne hb] at z; exact sub' b' o z
theorem mirrors_of (h : spD K conMirrors vs H Q E) : spMirrors vs H Q E := by
  obtain ⟨I, es, P, PX, sub, env, ⟨p, c, n, w, h', rfl, hn, h0, h1, h2, hP⟩, kq, _⟩ := h
  obtain ⟨rfl, ip, ic, tok⟩ := hand_in2 env
  refine ⟨p, c, n, w, h', rfl, tok.at_, hn, h0, h1, h2, fun ms l H' g lz hl0 hl hh kp => ?_⟩
  have sub' := hand_sub sub ip ic kp
  obtain ⟨I', xs, le, s', nw, hx, rr⟩ := mirs_in (K := K) sub' hl
  have il : I' l = none := by
    cases z : I' l with
    | none => rfl
    | some o =>
      rcases nw l o z with q | ⟨ys, q⟩
      · rw [sub.none hl0] at q; cases q
      · rw [hx] at q; cases q
  obtain ⟨e1, s1⟩ := hand_out (I' := I') (t := .own l (mirsD ms)) (x := .ref l) env imms_int2 kp ⟨hh⟩ le (fun b o z => by
    rcases nw b o z with q | ⟨ys, q⟩
    · exact .inl q
    · exact .inr (freeT_of (I := I) kp tok.tokp tok.tokc (TokAt.mk hh).tokp (TokAt.mk hh).tokc q)) ⟨rfl, il, xs, hx, rr⟩ fun a ha => by simp at ha; subst ha; exact hl0
  exact kq _ _ _ I' H' (hP ms l g lz) s' e1 s1
theorem far_of (h : spD K conFar vs H Q E) : spFar vs H Q E := by
  obtain ⟨I, es, P, PX, sub, env, ⟨p, c, n, most, lim, rfl, hn, h0, h1, h2, hP⟩, kq, _⟩ := h
  obtain ⟨rfl, ip, ic, tok⟩ := hand_in2 env
  refine ⟨p, c, n, most, lim, rfl, tok.at_, hn, h0, h1, h2, fun w h' ms l q H' hw hh' hwh g lz hl0 hl hq hh kp => ?_⟩
  have sub' := hand_sub sub ip ic kp
  obtain ⟨I1, xs, le, s', nw, hx, rr⟩ := mirs_in (K := K) sub' hl
  have fT : ∀ {b : Addr} {ys : List V}, H' b = some (.tup ys) → FreeT H b := fun q => freeT_of (I := I) kp tok.tokp tok.tokc (TokAt.mk hh).tokp (TokAt.mk hh).tokc q
  have il : I1 l = none := by
    cases z : I1 l with
    | none => rfl
    | some o =>
      rcases nw l o z with q | ⟨ys, q⟩
      · rw [sub.none hl0] at q; cases q
      · rw [hx] at q; cases q
  have le2 : Le I1 (upd I1 l (.lst xs)) := Le.new il
  have s2 : Sub (upd I1 l (.lst xs)) H' := fun b o z => by
    by_cases hb : b = l
    · subst hb; rw [upd_same] at z; cases z; exact hx
    · rw [upd_ne hb] at z; exact s' b o z
  have le3 : Le (upd I1 l (.lst xs)) (fun b => if b = q then some (.tup [.int w, .int h', .ref l]) else (upd I1 l (.lst xs)) b) := fun b o z => by
    by_cases hb : b = q
    · subst hb
      have := s2 b o z
      rw [hq] at this
      cases this
      exact if_pos rfl
    · show (if b = q then _ else _) = _
      rw [if_neg hb]; exact z
  obtain ⟨e1, s1⟩ := hand_out (I' := upd (upd I1 l (.lst xs)) q (.tup [.int w, .int h', .ref l])) (t := .imm (.tup [.int w, .int h', mirsD ms])) (x := .ref q) env imms_int2 kp ⟨hh⟩ ((le.trans le2).trans le3) (fun b o z => by
    by_cases hb : b = q
    · subst hb; exact .inr (fT hq)
    · rw [upd_ne hb] at z
      by_cases hb2 : b = l
      · subst hb2; exact .inr (.of hl0)
      · rw [upd_ne hb2] at z
        rcases nw b o z with q | ⟨ys, q⟩
        · exact .inl q
        · exact .inr (fT q)) (.tup upd_same (.cons (.int _) (.cons (.int _) (.cons (.lst (le3 _ _ upd_same) (rr.mono (le2.trans le3))) .nil)))) fun a ha => by simp at ha
  refine kq _ _ _ _ H' (hP w h' ms hw hh' hwh g lz) (fun b o z => ?_) e1 s1
  by_cases hb : b = q
  · subst hb; rw [upd_same] at z; cases z; exact hq
  · rw [upd_ne hb] at z; exact s2 b o z
end
/-! ### boards -/
def spIns : Sp := fun vs H Q _ => ∃ (w h x y : Int), vs = [.int w, .int h, .int x, .int y] ∧ ∀ b : Bool, (b = true ↔ Ins w h x y) → Q (.bl b) H
abbrev ptK (z : Int × Int) : List Key := [Sum.inl z.1, Sum.inl z.2]
/-- the dict that holds the mirrors -/
def kvsOf (ms : List Mir) : List (List Key × V) := ms.map fun m => (ptK (mK m), V.str m.2.2)
def spCheck (A : Ad) : Sp := fun vs H Q E => ∃ (w h : Int) (d m : Addr) (kvs : List (List Key × V)) (z : Mir), vs = [.int w, .int h, .ref d, .ref m] ∧ H d = some (.dT kvs) ∧ H m = some (.tup (mV z)) ∧
  (¬ Ins w h z.1 z.2.1 → WishT A.C_InvalidPoint z.1 z.2.1 E H) ∧ (Ins w h z.1 z.2.1 → ¬ KindOk z.2.2 → WishV A.C_InvalidMirror (.str z.2.2) E H) ∧
  (Ins w h z.1 z.2.1 → KindOk z.2.2 → valV kvs (ptK (mK z)) ≠ none → WishT A.C_Taken z.1 z.2.1 E H) ∧
  (Ins w h z.1 z.2.1 → KindOk z.2.2 → valV kvs (ptK (mK z)) = none → ∀ H', Same H H' → Q .non H')
theorem kind_in {k : Str} : inV (.str k) [.str "-", .str "|"] = true ↔ KindOk k := by
  unfold inV KindOk
  simp [eqV]
  constructor
  · rintro (h | h)
    · exact .inl h.symm
    · exact .inr h.symm
  · rintro (h | h)
    · exact .inl h.symm
    · exact .inr h.symm
section
variable {P : Program} {w : World} {K : PySem.W.Frag} {mg : Str → Option Value} {base : Heap} {A : Ad}
theorem ok_is_inside (T : Txt K mg A) : FnOk P w K mg base CX0 1 A.f_is_inside A.d_is_inside P_is_inside spIns := by
  refine T.F_is_inside.ok sc_is_inside (fun vs H Q E h => ?_) (fun cdv A' outer s H vs Q E hr h => ?_)
  · obtain ⟨a, b, c, d, rfl, _⟩ := h
    rfl
  · obtain ⟨w', h', x, y, rfl, kk⟩ := h
    refine ⟨_, (pss_one (ps_ret (pe_and (pe_chain op_lt op_lt pe_int (pv 2) (pe_op op_mul pe_int (pv 0))) (pe_and (pe_chain op_lt op_lt pe_int (pv 3) (pe_op op_mul pe_int (pv 1))) (pe_one (pe_cmpR op_eq (pe_op op_mod (pe_op op_add (pv 2) (pv 3)) pe_int) pe_int (nomark _))))))), ?_⟩
    walk_at "rs"
    refine r_ite (fun c1 => ?_) (fun c1 => ?_)
    · walk_at "rs"
      refine r_ite (fun c2 => ?_) (fun c2 => ?_)
      · walk_at "rs"
        refine r_ite (fun c3 => ?_) (fun c3 => ?_)
        · walk_at "rs"
          refine r_ite (fun c4 => ?_) (fun c4 => ?_)
          · walk_at "rs"
            refine kk _ ⟨fun h => ⟨c1, c2, c3, c4, by simpa using h⟩, fun h => by simpa using h.2.2.2.2⟩
          · walk_at "rs"
            exact kk _ ⟨fun h => by simp at h, fun h => absurd h.2.2.2.1 c4⟩
        · walk_at "rs"
          exact kk _ ⟨fun h => by simp at h, fun h => absurd h.2.2.1 c3⟩
      · walk_at "rs"
        exact kk _ ⟨fun h => by simp at h, fun h => absurd h.2.1 c2⟩
    · walk_at "rs"
      exact kk _ ⟨fun h => by simp at h, fun h => absurd h.1 c1⟩
theorem ok_check_mirror (T : Txt K mg A) : FnOk P w K mg base (L2.CX P w) 3 A.f_check_mirror A.d_check_mirror P_check_mirror (spCheck A) := by
  have G_SandError___init__ := ok_SandError___init__ (P := P) (w := w) (base := base) T
  have G_is_inside := ok_is_inside (P := P) (w := w) (base := base) T
  refine T.F_check_mirror.okX sc_check_mirror (fun vs H Q E h => ?_) (fun cdv A' outer s H vs Q E hr h => ?_)
  · obtain ⟨a, b, c, d, kvs, z, rfl, _⟩ := h
    rfl
  · obtain ⟨w', h', d, m, kvs, z, rfl, hd, hm, e1, e2, e3, kk⟩ := h
    have hu := hu_of hr
    refine ⟨_, (pss_cons (ps_asg (pv 3) (pg_tup rfl (pgs_cons (pg_name (i := 4) sc_check_mirror.nd rfl (Or.inl rfl)) (pgs_cons (pg_name (i := 5) sc_check_mirror.nd rfl (Or.inl rfl)) (pgs_cons (pg_name (i := 6) sc_check_mirror.nd rfl (Or.inl rfl)) pgs_nil)))))
(pss_cons (ps_if (pt_not (pt_val (pe_call G_is_inside (hr.mono (by first | decide | omega)) rfl T.g_is_inside T.k_is_inside T.b_is_inside .nil pass0 (pa_cons (pv 0) (pa_cons (pv 1) (pa_cons (pv 4) (pa_cons (pv 5) pa_nil)))))))
(pss_one (ps_raise rfl (takes_of rfl rfl rfl rfl) (pmk_oex T.X_InvalidPoint T.i_InvalidPoint T.ti_init G_SandError___init__ (hr.mono (by first | decide | omega)) T.b_SandError___init__ .nil pass0 rfl T.g_InvalidPoint (pa_cons (pe_tup (pa_cons (pv 4) (pa_cons (pv 5) pa_nil))) pa_nil))))
pss_nil)
(pss_cons (ps_if (pt_cmpR op_notIn_seq (pv 6) (pe_glob (v := .ref A.c_KINDS) rfl T.g_KINDS rfl) (by rfl))
(pss_one (ps_raise rfl (takes_of rfl rfl rfl rfl) (pmk_oex T.X_InvalidMirror T.i_InvalidMirror T.ti_init G_SandError___init__ (hr.mono (by first | decide | omega)) T.b_SandError___init__ .nil pass0 rfl T.g_InvalidMirror (pa_cons (pv 6) pa_nil))))
pss_nil)
(pss_one (ps_if (pt_cmp (pc_din hu (pe_tup (pa_cons (pv 4) (pa_cons (pv 5) pa_nil))) (pv 2)))
(pss_one (ps_raise rfl (takes_of rfl rfl rfl rfl) (pmk_oex T.X_Taken T.i_Taken T.ti_init G_SandError___init__ (hr.mono (by first | decide | omega)) T.b_SandError___init__ .nil pass0 rfl T.g_Taken (pa_cons (pe_tup (pa_cons (pv 4) (pa_cons (pv 5) pa_nil))) pa_nil))))
pss_nil))))), ?_⟩
    walk_at "rs"
    refine ⟨w', h', _, _, rfl, fun b hb => ?_⟩
    walk_at "rs"
    refine r_iteNB (fun c1 => ?_) (fun c1 => ?_)
    · have nin : ¬ Ins w' h' z.1 z.2.1 := fun h => by rw [hb.mpr h] at c1; cases c1
      walk_at "rs"
      intro q hq
      walk_at "rs"
      refine ⟨(by show 1 ≤ 1000; decide), raise_val T.X_InvalidPoint T.no_InvalidPoint fun d' H' sm hd' => ?_⟩
      exact e1 nin d' q H' ((Same.new hq).trans sm) hd' (sm _ _ upd_same)
    · have hin : Ins w' h' z.1 z.2.1 := hb.mp c1
      walk_at "rs"
      refine ⟨A.c_KINDS, _, rfl, .inr (T.q_KINDS H), rfl, rfl, ?_⟩
      walk_at "rs"
      refine r_iteNB (fun c2 => ?_) (fun c2 => ?_)
      · have nk : ¬ KindOk z.2.2 := fun h => by rw [kind_in.mpr h] at c2; cases c2
        walk_at "rs"
        refine ⟨(by show 1 ≤ 1000; decide), raise_val T.X_InvalidMirror T.no_InvalidMirror fun d' H' sm hd' => ?_⟩
        exact e2 hin nk d' H' sm hd'
      · have hk : KindOk z.2.2 := kind_in.mp c2
        walk_at "rs"
        intro q hq
        walk_at "rs"
        refine ⟨d, _, rfl, DGet.t (k := ptK (mK z)) (by walk_at "hl") upd_same, ?_⟩
        walk_at "rs"
        refine r_iteB (fun c3 => ?_) (fun c3 => ?_)
        · have hv : valV kvs (ptK (mK z)) ≠ none := fun h => by rw [h] at c3; cases c3
          walk_at "rs"
          intro u hu
          walk_at "rs"
          refine ⟨(by show 1 ≤ 1000; decide), raise_val T.X_Taken T.no_Taken fun d' H' sm hd' => ?_⟩
          exact e3 hin hk hv d' u H' (((Same.new hq).trans (Same.new hu)).trans sm) hd' (sm _ _ upd_same)
        · have hv : valV kvs (ptK (mK z)) = none := by
            cases e : valV kvs (ptK (mK z)) with
            | none => rfl
            | some v => rw [e] at c3; cases c3
          walk_at "rs"
          exact kk hin hk hv _ (Same.new hq)
theorem kvs_find {ms : List Mir} {z : Int × Int} : valV (kvsOf ms) (ptK z) = none ↔ z ∉ ms.map mK := by
  unfold kvsOf
  induction ms with
  | nil => simp [valV]
  | cons m r ih =>
    rw [List.map_cons, List.map_cons, List.mem_cons]
    by_cases h : ptK (mK m) = ptK z
    · have e : z = mK m := by
        obtain ⟨a, b⟩ := z
        simp [ptK] at h
        exact Prod.ext h.1.symm h.2.symm
      rw [valV_pos h]
      simp [e]
    · have e : ¬ z = mK m := fun q => h (by rw [q])
      rw [valV_neg h, ih]
      simp [e]
theorem kvs_get {ms : List Mir} {z : Mir} (nd : (ms.map mK).Nodup) (hm : z ∈ ms) : valV (kvsOf ms) (ptK (mK z)) = some (.str z.2.2) := by
  unfold kvsOf
  induction ms with
  | nil => simp at hm
  | cons m r ih =>
    rw [List.map_cons, List.nodup_cons] at nd
    rw [List.map_cons]
    rcases List.mem_cons.mp hm with e | hm
    · subst e
      rw [valV_pos rfl]
    · have h : ¬ ptK (mK m) = ptK (mK z) := fun h => nd.1 (by
        have e : mK m = mK z := by
          simp [ptK] at h
          exact Prod.ext h.1 h.2
        rw [e]
        exact List.mem_map.mpr ⟨z, hm, rfl⟩)
      rw [valV_neg h]
      exact ih nd.2 hm
theorem kvs_len (ms : List Mir) : (kvsOf ms).length = ms.length := List.length_map ..
def spKinds (A : Ad) : Sp := fun vs H Q E => ∃ (w h : Int) (l : Addr) (ms : List Mir), vs = [.int w, .int h, .ref l] ∧ MsAt H l ms ∧ ms.length ≤ 500 ∧
  ((GoodMs w h ms ∧ ∀ d H', H d = none → Same H H' → H' d = some (.dT (kvsOf ms)) → Q (.ref d) H') ∨
   ∃ (i : Nat) (z : Mir), ms[i]? = some z ∧ GoodMs w h (ms.take i) ∧
     ((¬ Ins w h z.1 z.2.1 ∧ WishT A.C_InvalidPoint z.1 z.2.1 E H) ∨ (Ins w h z.1 z.2.1 ∧ ¬ KindOk z.2.2 ∧ WishV A.C_InvalidMirror (.str z.2.2) E H) ∨
      (Ins w h z.1 z.2.1 ∧ KindOk z.2.2 ∧ mK z ∈ (ms.take i).map mK ∧ WishT A.C_Taken z.1 z.2.1 E H)))
theorem GoodMs.sub {w h : Int} {ms ns : List Mir} (g : GoodMs w h ms) (s : ns.Sublist ms) : GoodMs w h ns := ⟨fun m hm => g.ins m (s.subset hm), fun m hm => g.kind m (s.subset hm), g.nd.sublist (s.map mK)⟩
theorem WishT.same {C : Addr} {x y : Int} {E : XK} {H H1 : Hp} (h : WishT C x y E H) (s : Same H H1) : WishT C x y E H1 := fun d q H' s' => h d q H' (s.trans s')
theorem WishV.same {C : Addr} {v : V} {E : XK} {H H1 : Hp} (h : WishV C v E H) (s : Same H H1) : WishV C v E H1 := fun d H' s' => h d H' (s.trans s')
/-- a turn of a loop over good mirrors -/
theorem GoodMs.at {w h : Int} {ms : List Mir} {i : Nat} {z : Mir} (g : GoodMs w h ms) (hz : ms[i]? = some z) : Ins w h z.1 z.2.1 ∧ KindOk z.2.2 ∧ mK z ∉ (ms.take i).map mK := by
  refine ⟨g.ins z (List.mem_of_getElem? hz), g.kind z (List.mem_of_getElem? hz), fun hm => ?_⟩
  have nd := g.nd
  have tk : ms.take (i + 1) = ms.take i ++ [z] := by rw [List.take_add_one, hz]; rfl
  have h2 : ((ms.take (i + 1)).map mK).Nodup := nd.sublist ((List.take_sublist _ _).map mK)
  rw [tk, List.map_append, List.nodup_append] at h2
  exact h2.2.2 _ hm _ (by simp) rfl
theorem ok_kinds_of (T : Txt K mg A) : FnOk P w K mg base (L2.CX P w) 4 A.f_kinds_of A.d_kinds_of P_kinds_of (spKinds A) := by
  have G_check_mirror := ok_check_mirror (P := P) (w := w) (base := base) T
  refine T.F_kinds_of.okX sc_kinds_of (fun vs H Q E h => ?_) (fun cdv A' outer s H vs Q E hr h => ?_)
  · obtain ⟨a, b, c, ms, rfl, _⟩ := h
    rfl
  · obtain ⟨w', h', l, ms, rfl, ⟨as, hl, tt⟩, hlen, kk⟩ := h
    have hu := hu_of hr
    refine ⟨_, (pss_cons (ps_set (i := 3) sc_kinds_of.nd rfl (Or.inl rfl) pe_dnewT)
(pss_cons (ps_for (passes_of rfl) rfl (pi_list (pv 2)) (pg_tup rfl (pgs_cons (pg_name (i := 4) sc_kinds_of.nd rfl (Or.inl rfl)) (pgs_cons (pg_name (i := 5) sc_kinds_of.nd rfl (Or.inl rfl)) (pgs_cons (pg_name (i := 6) sc_kinds_of.nd rfl (Or.inl rfl)) pgs_nil))))
(pss_cons (ps_expr (pe_call G_check_mirror (hr.mono (by first | decide | omega)) rfl T.g_check_mirror T.k_check_mirror T.b_check_mirror .nil (passes_call (takes_of rfl rfl rfl rfl) (fun _ _ _ _ h => h)) (pa_cons (pv 0) (pa_cons (pv 1) (pa_cons (pv 3) (pa_cons (pe_tup (pa_cons (pv 4) (pa_cons (pv 5) (pa_cons (pv 6) pa_nil)))) pa_nil))))))
(pss_one (ps_dput hu (pv 3) (pe_tup (pa_cons (pv 4) (pa_cons (pv 5) pa_nil))) (pv 6) rfl))))
(pss_one (ps_ret (pv 3))))), ?_⟩
    walk_at "rs"
    intro d hd
    have hld : l ≠ d := ne_of_none hl hd
    have hal : as.length = ms.length := by rw [Paired.length tt, List.length_map]
    walk_at "rs"
    -- what is known of the place reached: good so far, and not beyond the bad one
    refine ⟨l, rfl, ⟨_, SqL.of (by walk_at "hl")⟩, for_list (K := K) (a := l) (xs := as.map V.ref) (fun i σ H1 => ∃ (v4 v5 v6 : Option V), σ = [some (.int w'), some (.int h'), some (.ref l), some (.ref d), v4, v5, v6] ∧
      Same H H1 ∧ H1 d = some (.dT (kvsOf (ms.take i))) ∧ GoodMs w' h' (ms.take i) ∧
      (∀ j z, ms[j]? = some z → GoodMs w' h' (ms.take j) → (¬ Ins w' h' z.1 z.2.1 ∨ (Ins w' h' z.1 z.2.1 ∧ ¬ KindOk z.2.2) ∨ (Ins w' h' z.1 z.2.1 ∧ KindOk z.2.2 ∧ mK z ∈ (ms.take j).map mK)) → i ≤ j)) ?_ ?_ ?_ ?_⟩
    · exact ⟨none, none, none, rfl, Same.new hd, upd_same, ⟨fun _ h => by simp at h, fun _ h => by simp at h, List.nodup_nil⟩, fun j z _ _ _ => Nat.zero_le _⟩
    · rintro i σ H1 _ ⟨_, _, _, _, sm, _⟩
      exact SqL.of (sm _ _ hl)
    · rintro i x σ H1 hi ⟨v4, v5, v6, rfl, sm, hd1, gd, nb⟩
      obtain ⟨a, xs, rfl, ha, hx, hta⟩ := (tt.keep fun b xs h => sm b _ h).get hi
      obtain ⟨z, hz, rfl⟩ : ∃ z, ms[i]? = some z ∧ xs = mV z := by
        rw [List.getElem?_map] at hx
        cases e : ms[i]? with
        | none => rw [e] at hx; cases hx
        | some z => rw [e] at hx; exact ⟨z, rfl, (Option.some.inj hx).symm⟩
      have tk : ms.take (i + 1) = ms.take i ++ [z] := by rw [List.take_add_one, hz]; rfl
      have hil : i < ms.length := (List.getElem?_eq_some_iff.mp hz).1
      walk_at "rs"
      intro m hm
      walk_at "rs"
      -- where the bad one is the one at hand, the wish is there; otherwise it is none of the three
      have key : ∀ (bad : ¬ Ins w' h' z.1 z.2.1 ∨ (Ins w' h' z.1 z.2.1 ∧ ¬ KindOk z.2.2) ∨ (Ins w' h' z.1 z.2.1 ∧ KindOk z.2.2 ∧ mK z ∈ (ms.take i).map mK)),
          ((¬ Ins w' h' z.1 z.2.1 ∧ WishT A.C_InvalidPoint z.1 z.2.1 E H) ∨ (Ins w' h' z.1 z.2.1 ∧ ¬ KindOk z.2.2 ∧ WishV A.C_InvalidMirror (.str z.2.2) E H) ∨ (Ins w' h' z.1 z.2.1 ∧ KindOk z.2.2 ∧ mK z ∈ (ms.take i).map mK ∧ WishT A.C_Taken z.1 z.2.1 E H)) := by
        intro bad
        rcases kk with ⟨g, _⟩ | ⟨j, y, hy, gj, wish⟩
        · obtain ⟨g1, g2, g3⟩ := g.at hz
          rcases bad with b | ⟨_, b⟩ | ⟨_, _, b⟩
          · exact absurd g1 b
          · exact absurd g2 b
          · exact absurd b g3
        · have hij : i ≤ j := nb j y hy gj (by
            rcases wish with ⟨a, _⟩ | ⟨a, b, _⟩ | ⟨a, b, c, _⟩
            · exact .inl a
            · exact .inr (.inl ⟨a, b⟩)
            · exact .inr (.inr ⟨a, b, c⟩))
          rcases Nat.lt_or_eq_of_le hij with hlt | e
          · exfalso
            have hz' : (ms.take j)[i]? = some z := by rw [List.getElem?_take_of_lt hlt]; exact hz
            obtain ⟨g1, g2, g3⟩ := gj.at hz'
            rw [List.take_take, Nat.min_eq_left (Nat.le_of_lt hlt)] at g3
            rcases bad with b | ⟨_, b⟩ | ⟨_, _, b⟩
            · exact b g1
            · exact b g2
            · exact g3 b
          · subst e
            rw [hz] at hy
            cases hy
            exact wish
      have smn : Same H (upd H1 m (.tup (mV z))) := sm.trans (Same.new hm)
      refine ⟨w', h', d, m, kvsOf (ms.take i), z, rfl, by walk_at "hl", upd_same, fun n1 => ?_, fun i1 n2 => ?_, fun i1 i2 n3 => ?_, fun i1 i2 n3 H2 sm2 => ?_⟩
      · rcases key (.inl n1) with ⟨_, q⟩ | ⟨q, _⟩ | ⟨q, _⟩
        · exact q.same smn
        · exact absurd q n1
        · exact absurd q n1
      · rcases key (.inr (.inl ⟨i1, n2⟩)) with ⟨q, _⟩ | ⟨_, _, q⟩ | ⟨_, q, _⟩
        · exact absurd i1 q
        · exact q.same smn
        · exact absurd q n2
      · have hmem : mK z ∈ (ms.take i).map mK := by
          refine Classical.byContradiction fun h => n3 (kvs_find.mpr h)
        rcases key (.inr (.inr ⟨i1, i2, hmem⟩)) with ⟨q, _⟩ | ⟨_, q, _⟩ | ⟨_, _, _, q⟩
        · exact absurd i1 q
        · exact absurd i2 q
        · exact q.same smn
      · have hd2 := sm2 d _ (show (upd H1 m (.tup (mV z))) d = some (.dT (kvsOf (ms.take i))) by walk_at "hl")
        walk_at "rs"
        intro q hq
        have hdq : d ≠ q := ne_of_none hd2 hq
        have hlt : (kvsOf (ms.take i)).length < sizeLine := by rw [kvs_len]; exact small1000 (by rw [List.length_take]; omega)
        refine ⟨d, _, rfl, DPut.t (k := ptK (mK z)) (by walk_at "hl") upd_same hlt, ?_⟩
        refine ⟨_, _, _, rfl, ((smn.trans sm2).trans (Same.new hq)).mut hd, ?_, ?_, fun j y hy gj bad => ?_⟩
        · rw [upd_same, putK_new _ n3, tk]
          unfold kvsOf
          rw [List.map_append]
          rfl
        · rw [tk]
          refine ⟨fun m hm => ?_, fun m hm => ?_, ?_⟩
          · rcases List.mem_append.mp hm with hm | hm
            · exact gd.ins m hm
            · rw [List.mem_singleton] at hm; subst hm; exact i1
          · rcases List.mem_append.mp hm with hm | hm
            · exact gd.kind m hm
            · rw [List.mem_singleton] at hm; subst hm; exact i2
          · rw [List.map_append, List.nodup_append]
            refine ⟨gd.nd, by simp, fun a ha b hb => ?_⟩
            rw [List.map_singleton, List.mem_singleton] at hb
            subst hb
            intro e
            subst e
            exact kvs_find.mp n3 ha
        · have h1 := nb j y hy gj bad
          rcases Nat.lt_or_eq_of_le h1 with h1 | e
          · exact h1
          · exfalso
            subst e
            rw [hz] at hy
            cases hy
            rcases bad with b | ⟨_, b⟩ | ⟨_, _, b⟩
            · exact b i1
            · exact b i2
            · exact kvs_find.mp n3 b
    · rintro σ H1 ⟨v4, v5, v6, rfl, sm, hd1, gd, nb⟩
      rw [List.length_map, hal] at hd1 gd nb
      rw [List.take_length] at hd1 gd
      walk_at "rs"
      rcases kk with ⟨_, kk⟩ | ⟨j, y, hy, gj, wish⟩
      · exact kk d H1 hd sm hd1
      · exfalso
        have h1 := nb j y hy gj (by
            rcases wish with ⟨a, _⟩ | ⟨a, b, _⟩ | ⟨a, b, c, _⟩
            · exact .inl a
            · exact .inr (.inl ⟨a, b⟩)
            · exact .inr (.inr ⟨a, b, c⟩))
        have h2 := (List.getElem?_eq_some_iff.mp hy).1
        omega
end
/-! ### Board -/
def bflds (w h : Int) (d : Addr) : List (Str × V) := putF "kinds" (.ref d) (putF "high" (.int h) (putF "wide" (.int w) []))
theorem n_kh : ¬ (("kinds" : Str) = "high") := by decide +kernel
theorem n_kw : ¬ (("kinds" : Str) = "wide") := by decide +kernel
theorem n_hw : ¬ (("high" : Str) = "wide") := by decide +kernel
theorem n_hk : ¬ (("high" : Str) = "kinds") := by decide +kernel
theorem n_wk : ¬ (("wide" : Str) = "kinds") := by decide +kernel
theorem n_wh : ¬ (("wide" : Str) = "high") := by decide +kernel
theorem bf_kinds (w h : Int) (d : Addr) : (bflds w h d).lookup ("kinds" : Str) = some (.ref d) := by
  unfold bflds
  rw [lookup_putF, if_pos rfl]
theorem bf_high (w h : Int) (d : Addr) : (bflds w h d).lookup ("high" : Str) = some (.int h) := by
  unfold bflds
  rw [lookup_putF, if_neg n_hk, lookup_putF, if_pos rfl]
theorem bf_wide (w h : Int) (d : Addr) : (bflds w h d).lookup ("wide" : Str) = some (.int w) := by
  unfold bflds
  rw [lookup_putF, if_neg n_wk, lookup_putF, if_neg n_wh, lookup_putF, if_pos rfl]
theorem bf_no (w h : Int) (d : Addr) {m : Str} (h1 : ¬ m = "kinds") (h2 : ¬ m = "high") (h3 : ¬ m = "wide") : (bflds w h d).lookup m = none := by
  unfold bflds
  rw [lookup_putF, if_neg h1, lookup_putF, if_neg h2, lookup_putF, if_neg h3]
  rfl
/-- a board stands at p -/
def BoardAt (C : Addr) (H : Hp) (p : Addr) (w h : Int) (ms : List Mir) : Prop := ∃ dx d, H p = some (.ins C dx (bflds w h d)) ∧ H d = some (.dT (kvsOf ms))
theorem BoardAt.same {C : Addr} {H H' : Hp} {p : Addr} {w h : Int} {ms : List Mir} (b : BoardAt C H p w h ms) (s : Same H H') : BoardAt C H' p w h ms := by
  obtain ⟨dx, d, e1, e2⟩ := b
  exact ⟨dx, d, s _ _ e1, s _ _ e2⟩
theorem BoardAt.keep2 {C : Addr} {H H' : Hp} {p q c : Addr} {n : Nat} {w h : Int} {ms : List Mir} (b : BoardAt C H p w h ms) (hh : HandAt H q c n) (s : Keep2 q c H H') : BoardAt C H' p w h ms := by
  obtain ⟨dx, d, e1, e2⟩ := b
  obtain ⟨_, f1⟩ := hh.p
  obtain ⟨_, f2⟩ := hh.c
  exact ⟨dx, d, s _ _ e1 (ne_of e1 f1 (fun z => nomatch z)) (ne_of e1 f2 (fun z => nomatch z)), s _ _ e2 (ne_of e2 f1 (fun z => nomatch z)) (ne_of e2 f2 (fun z => nomatch z))⟩
def spBoard (A : Ad) : Sp := fun vs H Q E => ∃ (p dx : Addr) (w h : Int) (l : Addr) (ms : List Mir), vs = [.ref p, .int w, .int h, .ref l] ∧ H p = some (.ins A.C_Board dx []) ∧ MsAt H l ms ∧ ms.length ≤ 500 ∧
  ((w < 1 ∧ WishV A.C_InvalidSize (.int w) E H) ∨ (1 ≤ w ∧ h < 1 ∧ WishV A.C_InvalidSize (.int h) E H) ∨
   (1 ≤ w ∧ 1 ≤ h ∧ GoodMs w h ms ∧ ∀ d H', H d = none → (∀ b o, H b = some o → b ≠ p → H' b = some o) → H' p = some (.ins A.C_Board dx (bflds w h d)) → H' d = some (.dT (kvsOf ms)) → Q .non H') ∨
   (1 ≤ w ∧ 1 ≤ h ∧ ∃ (i : Nat) (z : Mir), ms[i]? = some z ∧ GoodMs w h (ms.take i) ∧
     ((¬ Ins w h z.1 z.2.1 ∧ ∀ H1, (∀ b o, H b = some o → b ≠ p → H1 b = some o) → WishT A.C_InvalidPoint z.1 z.2.1 E H1) ∨ (Ins w h z.1 z.2.1 ∧ ¬ KindOk z.2.2 ∧ ∀ H1, (∀ b o, H b = some o → b ≠ p → H1 b = some o) → WishV A.C_InvalidMirror (.str z.2.2) E H1) ∨
      (Ins w h z.1 z.2.1 ∧ KindOk z.2.2 ∧ mK z ∈ (ms.take i).map mK ∧ ∀ H1, (∀ b o, H b = some o → b ≠ p → H1 b = some o) → WishT A.C_Taken z.1 z.2.1 E H1))))
section
variable {P : Program} {w : World} {K : PySem.W.Frag} {mg : Str → Option Value} {base : Heap} {A : Ad}
theorem ok_Board___init__ (T : Txt K mg A) : FnOk P w K mg base (L2.CX P w) 5 A.f_Board___init__ A.d_Board___init__ P_Board___init__ (spBoard A) := by
  have G_SandError___init__ := ok_SandError___init__ (P := P) (w := w) (base := base) T
  have G_kinds_of := ok_kinds_of (P := P) (w := w) (base := base) T
  refine T.F_Board___init__.okX sc_Board___init__ (fun vs H Q E h => ?_) (fun cdv A' outer s H vs Q E hr h => ?_)
  · obtain ⟨p, dx, a, b, l, ms, rfl, _⟩ := h
    rfl
  · obtain ⟨p, dx, w', h', l, ms, rfl, hp, ⟨as, hl, tt⟩, hlen, kk⟩ := h
    have hlp : l ≠ p := ne_of hl hp (fun z => nomatch z)
    refine ⟨_, (pss_cons (ps_if (pt_cmpR op_lt (pv 1) pe_int (nomark _))
(pss_one (ps_raise rfl (takes_of rfl rfl rfl rfl) (pmk_oex T.X_InvalidSize T.i_InvalidSize T.ti_init G_SandError___init__ (hr.mono (by first | decide | omega)) T.b_SandError___init__ .nil pass0 rfl T.g_InvalidSize (pa_cons (pv 1) pa_nil))))
pss_nil)
(pss_cons (ps_if (pt_cmpR op_lt (pv 2) pe_int (nomark _))
(pss_one (ps_raise rfl (takes_of rfl rfl rfl rfl) (pmk_oex T.X_InvalidSize T.i_InvalidSize T.ti_init G_SandError___init__ (hr.mono (by first | decide | omega)) T.b_SandError___init__ .nil pass0 rfl T.g_InvalidSize (pa_cons (pv 2) pa_nil))))
pss_nil)
(pss_cons (ps_fld (pv 0) (pv 1) rfl)
(pss_cons (ps_fld (pv 0) (pv 2) rfl)
(pss_one (ps_fld (pv 0) (pe_call G_kinds_of (hr.mono (by first | decide | omega)) rfl T.g_kinds_of T.k_kinds_of T.b_kinds_of .nil (passes_call (takes_of rfl rfl rfl rfl) (fun _ _ _ _ h => h)) (pa_cons (pv 1) (pa_cons (pv 2) (pa_cons (pv 3) pa_nil)))) rfl)))))), ?_⟩
    walk_at "rs"
    refine r_ite (fun c1 => ?_) (fun c1 => ?_)
    · have wish : WishV A.C_InvalidSize (.int w') E H := by
        rcases kk with ⟨_, q⟩ | ⟨q, _⟩ | ⟨q, _⟩ | ⟨q, _⟩
        · exact q
        · omega
        · omega
        · omega
      walk_at "rs"
      exact ⟨(by show 1 ≤ 1000; decide), raise_val T.X_InvalidSize T.no_InvalidSize wish⟩
    · walk_at "rs"
      refine r_ite (fun c2 => ?_) (fun c2 => ?_)
      · have wish : WishV A.C_InvalidSize (.int h') E H := by
          rcases kk with ⟨q, _⟩ | ⟨_, _, q⟩ | ⟨_, q, _⟩ | ⟨_, q, _⟩
          · omega
          · exact q
          · omega
          · omega
        walk_at "rs"
        exact ⟨(by show 1 ≤ 1000; decide), raise_val T.X_InvalidSize T.no_InvalidSize wish⟩
      · walk_at "rs"
        refine ⟨p, A.C_Board, dx, _, rfl, hp, T.cl_Board, T.na_Board_wide, (by show 0 < 1000; decide), ?_⟩
        walk_at "rs"
        refine ⟨p, A.C_Board, dx, _, rfl, upd_same, T.cl_Board, T.na_Board_high, (by show 1 < 1000; decide), ?_⟩
        walk_at "rs"
        rw [upd_upd]
        have km : ∀ b o, H b = some o → b ≠ p → (upd H p (.ins A.C_Board dx (putF "high" (.int h') (putF "wide" (.int w') [])))) b = some o := fun b o e ne => by rw [upd_ne ne]; exact e
        refine ⟨w', h', l, ms, rfl, ⟨as, by walk_at "hl", tt.keep fun b xs e => by rw [upd_ne (ne_of e hp (fun z => nomatch z))]; exact e⟩, hlen, ?_⟩
        rcases kk with ⟨q, _⟩ | ⟨_, q, _⟩ | ⟨_, _, g, kk⟩ | ⟨_, _, i, z, hz, g, wish⟩
        · omega
        · omega
        · refine .inl ⟨g, fun d H2 hd sm hd2 => ?_⟩
          have hp2 := sm p _ upd_same
          walk_at "rs"
          refine ⟨p, A.C_Board, dx, _, rfl, hp2, T.cl_Board, T.na_Board_kinds, (by show 2 < 1000; decide), ?_⟩
          walk_at "rs"
          have hdp : d ≠ p := (ne_of_none (upd_same (H := H)) hd).symm
          exact kk d _ (by rw [upd_ne hdp] at hd; exact hd) (fun b o e ne => by rw [upd_ne ne]; exact sm b o (km b o e ne)) upd_same (by walk_at "hl")
        · refine .inr ⟨i, z, hz, g, ?_⟩
          rcases wish with ⟨a, q⟩ | ⟨a, b, q⟩ | ⟨a, b, c, q⟩
          · exact .inl ⟨a, q _ km⟩
          · exact .inr (.inl ⟨a, b, q _ km⟩)
          · exact .inr (.inr ⟨a, b, c, q _ km⟩)
end
/-! ### what a board tells -/
section
variable {σ : L2.St} {H : Hp} {Q : VK}
theorem r_lockE {t : TE} (q : ∃ d u, H d = some u ∧ Mut (some u) ∧ ∀ od, t σ (upd H d (.frz od u)) fun v H' => H' d = some (.frz od u) ∧ Q v (upd H' d u)) : tLockE t σ H Q := q
theorem r_iKeys {td : TE} {R : It → Hp → Prop} (q : td σ H fun x H1 => ∃ d o, x = .ref d ∧ ((∃ kvs, H1 d = some (.frz o (.dK kvs)) ∧ R (Itk d o kvs) H1) ∨ ∃ kvs, H1 d = some (.frz o (.dT kvs)) ∧ R (Itkt d o kvs) H1)) : iKeys td σ H R := q
theorem r_prop {C : Addr} {sp : Sp} {dvs : List V} {E : XK} {ta : TE} (q : ta σ H fun x H1 => ∃ a dx fs, x = .ref a ∧ H1 a = some (.ins C dx fs) ∧ sp (.ref a :: dvs) H1 Q E) : tProp C sp dvs E ta σ H Q := q
end
local macro_rules | `(tactic| walk_at "rs1") => `(tactic| first
  | with_reducible refine r_iKeys ?_
  | with_reducible refine r_prop ?_)
def spMirrs (A : Ad) : Sp := fun vs H Q _ => ∃ (p : Addr) (w h : Int) (ms : List Mir), vs = [.ref p] ∧ BoardAt A.C_Board H p w h ms ∧ ms.length ≤ 500 ∧ (ms.map mK).Nodup ∧
  ∀ (ns : List Mir) (l : Addr) (H' : Hp), ns.Perm ms → ns.Pairwise Mle → H l = none → MsAt H' l ns → Same H H' → Q (.ref l) H'
theorem kvs_at {ms : List Mir} {i : Nat} {k : List Key} {v : V} (e : (kvsOf ms)[i]? = some (k, v)) : ∃ z, ms[i]? = some z ∧ k = ptK (mK z) ∧ v = .str z.2.2 := by
  unfold kvsOf at e
  rw [List.getElem?_map] at e
  cases h : ms[i]? with
  | none => rw [h] at e; cases e
  | some z =>
    rw [h] at e
    cases e
    exact ⟨z, rfl, rfl, rfl⟩
/-- a thing locked and unlocked again -/
theorem unlock_same {H H' : Hp} {d : Addr} {u : HO} {od : Obj} (h : H d = some u) (s : Same (upd H d (.frz od u)) H') : Same H (upd H' d u) := fun b o e => by
  by_cases hb : b = d
  · subst hb
    rw [h] at e
    cases e
    exact upd_same
  · rw [upd_ne hb]
    exact s b o (by rw [upd_ne hb]; exact e)
section
variable {P : Program} {w : World} {K : PySem.W.Frag} {mg : Str → Option Value} {base : Heap} {A : Ad}
end
/-! ### _law_same of equal data -/
theorem okDs_get {n : Nat} : ∀ {ds : List PyData} {i : Nat} {d : PyData}, okDs n ds = true → ds[i]? = some d → okD n d = true
  | [], i, d, _, e => by simp at e
  | x :: xs, 0, d, h, e => by
    rw [okDs, Bool.and_eq_true] at h
    simp at e
    subst e
    exact h.1
  | x :: xs, i + 1, d, h, e => by
    rw [okDs, Bool.and_eq_true] at h
    exact okDs_get (i := i) h.2 (by simpa using e)
def spSame (K : PySem.W.Frag) : Nat → Sp
  | 0 => fun _ _ _ _ => False
  | n + 1 => fun vs H Q _ => ∃ (x y : V) (d : PyData), vs = [x, y] ∧ Dp K H x d ∧ Dp K H y d ∧ okD n d = true ∧ ∀ H', Same H H' → Q (.bl true) H'
section
variable {P : Program} {w : World} {K : PySem.W.Frag} {mg : Str → Option Value} {base : Heap} {A : Ad}
end
/-! ### boards over data -/
def kvD (ms : List Mir) : List (List Key × D) := ms.map fun m => (ptK (mK m), .str m.2.2)
abbrev brdF (w h : Int) (ms : List Mir) : List (Str × D) := [(("wide" : Str), D.int w), (("high" : Str), D.int h), (("kinds" : Str), D.dic (kvD ms))]
abbrev brdD (C : Addr) (w h : Int) (ms : List Mir) : D := .obj C (brdF w h ms)
abbrev plD (x y : Int) : D := .tup [.int x, .int y]
theorem kv_reps {K : PySem.W.Frag} {I : Hp} : ∀ ms : List Mir, (kvsOf ms).map (·.1) = (kvD ms).map (·.1) ∧ Reps K I ((kvsOf ms).map (·.2)) ((kvD ms).map (·.2))
  | [] => ⟨rfl, .nil⟩
  | m :: ms => by
    obtain ⟨h1, h2⟩ := kv_reps (K := K) (I := I) ms
    exact ⟨by unfold kvsOf kvD at h1 ⊢; rw [List.map_cons, List.map_cons, List.map_cons, List.map_cons, h1], .cons (.str _) h2⟩
theorem kv_back {K : PySem.W.Frag} {I : Hp} : ∀ {ms : List Mir} {kvs : List (List Key × V)}, kvs.map (·.1) = (kvD ms).map (·.1) → Reps K I (kvs.map (·.2)) ((kvD ms).map (·.2)) → kvs = kvsOf ms
  | [], [], _, _ => rfl
  | [], _ :: _, m, _ => by cases m
  | _ :: _, [], m, _ => by cases m
  | z :: ms, (k, x) :: kvs, m, r => by
    unfold kvD at m r
    rw [List.map_cons, List.map_cons, List.map_cons] at m r
    injection m with m1 m2
    cases r with
    | cons r1 r2 =>
      cases r1
      rw [kv_back (ms := ms) m2 r2, show k = ptK (mK z) from m1]
      rfl
theorem bf_eq (w h : Int) (d : Addr) : bflds w h d = [(("wide" : Str), V.int w), (("high" : Str), V.int h), (("kinds" : Str), V.ref d)] := by
  rfl
theorem brd_at {K : PySem.W.Frag} {I : Hp} {C p dx d : Addr} {w h : Int} {ms : List Mir} (h1 : I p = some (.ins C dx (bflds w h d))) (h2 : I d = some (.dT (kvsOf ms))) : Rep K I (.ref p) (brdD C w h ms) := by
  rw [bf_eq] at h1
  obtain ⟨k1, k2⟩ := kv_reps (K := K) (I := I) ms
  exact .obj h1 rfl (.cons (.int _) (.cons (.int _) (.cons (.dic h2 k1 k2) .nil)))
theorem brd_of {K : PySem.W.Frag} {I H : Hp} {C : Addr} {w h : Int} {ms : List Mir} {x : V} (s : Sub I H) (r : Rep K I x (brdD C w h ms)) : ∃ p, x = .ref p ∧ BoardAt C H p w h ms := by
  cases r with
  | @obj a _ dx fs _ h1 m rr =>
    match fs, m, rr with
    | [(f1, x1), (f2, x2), (f3, x3)], m, rr =>
      simp at m
      obtain ⟨rfl, rfl, rfl⟩ := m
      cases rr with
      | cons q1 rr => cases rr with
        | cons q2 rr => cases rr with
          | cons q3 rr =>
            cases q1
            cases q2
            cases q3 with
            | @dic d kvs _ hd k1 k2 =>
              have e := kv_back k1 k2
              subst e
              exact ⟨a, rfl, dx, d, by rw [bf_eq]; exact s _ _ h1, s _ _ hd⟩
/-- what goes wrong first -/
def conBoard (A : Ad) : Con := fun es P PX => ∃ (w h : Int) (ms : List Mir), es = [.int w, .int h, .imm (mirsD ms)] ∧ ms.length ≤ 500 ∧
  ((w < 1 ∧ PX A.C_InvalidSize (.int w) es) ∨ (1 ≤ w ∧ h < 1 ∧ PX A.C_InvalidSize (.int h) es) ∨ (1 ≤ w ∧ 1 ≤ h ∧ GoodMs w h ms ∧ P (.imm (brdD A.C_Board w h ms)) es) ∨
   (1 ≤ w ∧ 1 ≤ h ∧ ∃ (i : Nat) (z : Mir), ms[i]? = some z ∧ GoodMs w h (ms.take i) ∧
     ((¬ Ins w h z.1 z.2.1 ∧ PX A.C_InvalidPoint (plD z.1 z.2.1) es) ∨ (Ins w h z.1 z.2.1 ∧ ¬ KindOk z.2.2 ∧ PX A.C_InvalidMirror (.str z.2.2) es) ∨ (Ins w h z.1 z.2.1 ∧ KindOk z.2.2 ∧ mK z ∈ (ms.take i).map mK ∧ PX A.C_Taken (plD z.1 z.2.1) es))))
section
variable {K : PySem.W.Frag} {I H I' H' : Hp} {vs : List V} {ds : List D} {x : V} {t : Ent}
/-- arguments that never change -/
theorem imm_in : ∀ {vs : List V} {ds : List D}, EnvR K I H (vs.map some) ((ds.map Ent.imm).map some) → Reps K I vs ds
  | [], [], _ => .nil
  | [], _ :: _, e => by have := e.len; simp at this
  | _ :: _, [], e => by have := e.len; simp at this
  | v :: vs, d :: ds, e => by
    obtain ⟨y, y1, y2⟩ := e.at_ 0 (.imm d) rfl
    simp at y1
    subst y1
    refine .cons y2 (imm_in ⟨by have := e.len; simpa using this, fun i t q => e.at_ (i + 1) t q, fun i j t u a q1 q2 m1 m2 => ?_⟩)
    have := e.sep (i + 1) (j + 1) t u a q1 q2 m1 m2
    omega
theorem imm_env : ∀ {vs : List V} {ds : List D}, Reps K I vs ds → EnvR K I H (vs.map some) ((ds.map Ent.imm).map some) := fun {vs ds} r => by
  refine ⟨by simp [r.len], fun i t q => ?_, fun i j t u a q1 q2 m1 m2 => ?_⟩
  · rw [List.map_map, List.getElem?_map] at q
    cases z : ds[i]? with
    | none => rw [z] at q; cases q
    | some d =>
      rw [z] at q
      cases q
      obtain ⟨y, y1, y2⟩ := r.get z
      exact ⟨y, by rw [List.getElem?_map, y1]; rfl, y2⟩
  · rw [List.map_map, List.getElem?_map] at q1
    cases z : ds[i]? with
    | none => rw [z] at q1; cases q1
    | some d => rw [z] at q1; cases q1; simp at m1
theorem adr_imms (ds : List D) : adr ((ds.map Ent.imm).map some) = [] := by
  unfold adr
  induction ds with
  | nil => rfl
  | cons d ds ih => rw [List.map_cons, List.map_cons, List.flatMap_cons, ih]; rfl
theorem imm_out (env : EnvR K I H (vs.map some) ((ds.map Ent.imm).map some)) (g : Grow I H I' H') (r : EntR K I' H' x t) (nt : ∀ a ∈ t.adr, H a = none) :
    EnvR K I' H' (vs.map some ++ [some x]) ((ds.map Ent.imm).map some ++ [some t]) ∧ Step ((ds.map Ent.imm).map some) I H ((ds.map Ent.imm).map some ++ [some t]) I' H' := by
  refine ⟨(imm_env ((imm_in env).mono g.le)).push r fun a _ z => by rw [adr_imms] at z; simp at z, ⟨g.le, fun a o q _ => g.same a o q, fun a ha => ?_, fun a o q => ?_⟩⟩
  · rcases mem_push.mp ha with z | ⟨u, e, z⟩
    · rw [adr_imms] at z; simp at z
    · cases e; exact .inr (nt a z)
  · rcases g.new a o q with w | w
    · exact .inl w
    · exact .inr (.inr w)
theorem imm_exc (env : EnvR K I H (vs.map some) ((ds.map Ent.imm).map some)) (g : Grow I H I' H') :
    EnvR K I' H' (vs.map some) ((ds.map Ent.imm).map some) ∧ Step ((ds.map Ent.imm).map some) I H ((ds.map Ent.imm).map some) I' H' :=
  ⟨imm_env ((imm_in env).mono g.le), ⟨g.le, fun a o q _ => g.same a o q, fun a ha => .inl ha, fun a o q => by
    rcases g.new a o q with w | w
    · exact .inl w
    · exact .inr (.inr w)⟩⟩
/-- tuples of a heap grown are taken in -/
theorem grow_tups (g : Le H H') (s : Sub I H') (nw : ∀ a o, I' a = some o → I a = some o ∨ ∃ xs, H' a = some (.tup xs)) (le : Le I I') (s' : Sub I' H') : Grow I H I' H' :=
  ⟨le, g, s', fun a o q => by
    rcases nw a o q with w | ⟨xs, w⟩
    · exact .inl w
    · exact .inr fun u hu => by
        have := g a u hu
        rw [w] at this
        cases this
        exact ⟨xs, rfl⟩⟩
end
theorem mkD_Board {K : PySem.W.Frag} {A : Ad} : MkD K A.C_Board (spBoard A) (conBoard A) := by
  intro vs H Q E hsp x dx hx hdx hne
  obtain ⟨I, es, P, PX, sub, env, ⟨w, h, ms, rfl, hz, hc⟩, kq, ke⟩ := hsp
  have env' : EnvR K I H (vs.map some) (([D.int w, .int h, mirsD ms].map Ent.imm).map some) := env
  have r := imm_in env'
  cases r with
  | cons r1 r => cases r with
    | cons r2 r => cases r with
      | cons r3 r =>
      cases r
      cases r1
      cases r2
      cases r3 with
      | @lst l xs _ hl rr =>
      obtain ⟨as, rfl, tt⟩ := mirs_out sub rr
      have hxd : (upd H dx (.own x)) x = none := by rw [upd_ne (Ne.symm hne)]; exact hx
      have sm : Same H (upd (upd H dx (.own x)) x (.ins A.C_Board dx [])) := (Same.new hdx).trans (Same.new hxd)
      have keep : ∀ {H1 : Hp}, (∀ b o, (upd (upd H dx (.own x)) x (.ins A.C_Board dx [])) b = some o → b ≠ x → H1 b = some o) → Same H H1 := fun k b o q => k b o (sm b o q) (ne_of_none q hx)
      have gr : ∀ {H1 : Hp}, Same H H1 → Grow I H I H1 := fun s => ⟨Le.refl, fun b o q => s b o q, fun b o q => s b o (sub b o q), fun b o q => .inl q⟩
      -- the exceptions
      have xv : ∀ {C : Addr} {z : D} {v : V} {H1 : Hp}, PX C z [.int w, .int h, .imm (mirsD ms)] → (∀ J, Rep K J v z) → Same H H1 → WishV C v E H1 := fun hp rv s d H2 s2 hd => by
        obtain ⟨e1, e2⟩ := imm_exc env' (gr (s.trans s2))
        exact ke _ _ _ _ d I H2 hp (gr (s.trans s2)).sub e1 e2 (rv _) hd
      have xt : ∀ {C : Addr} {a b : Int} {H1 : Hp}, PX C (plD a b) [.int w, .int h, .imm (mirsD ms)] → Same H H1 → WishT C a b E H1 := fun {C a b H1} hp s d q H2 s2 hd hq => by
        obtain ⟨I2, l1, s1, n1, rr⟩ := tups_in (K := K) (gr (s.trans s2)).sub (as := [q]) (ds := [[.int a, .int b]]) (.cons hq .nil) (es := [[.int a, .int b]]) fun J => .cons (.cons (.int _) (.cons (.int _) .nil)) .nil
        cases rr with
        | cons rq _ =>
          have g := grow_tups (I := I) (s.trans s2) (gr (s.trans s2)).sub n1 l1 s1
          obtain ⟨e1, e2⟩ := imm_exc env' g
          exact ke _ _ _ _ d I2 H2 hp s1 e1 e2 rq hd
      have ne_l : l ≠ x := ne_of_none (sub _ _ hl) hx
      refine ⟨x, dx, w, h, l, ms, rfl, upd_same, ⟨as, sm _ _ (sub _ _ hl), tt.keep fun b ys q => sm _ _ q⟩, hz, ?_⟩
      rcases hc with ⟨a1, hp⟩ | ⟨a1, a2, hp⟩ | ⟨a1, a2, gd, hp⟩ | ⟨a1, a2, i, z, hz', gd, hp⟩
      · exact .inl ⟨a1, xv hp (fun _ => .int _) sm⟩
      · exact .inr (.inl ⟨a1, a2, xv hp (fun _ => .int _) sm⟩)
      · refine .inr (.inr (.inl ⟨a1, a2, gd, fun d H' hd0 hk hp' hd' => ⟨rfl, ?_⟩⟩))
        have s2 := keep hk
        have hd00 : H d = none := by
          cases q : H d with
          | none => rfl
          | some o => rw [sm _ _ q] at hd0; cases hd0
        have hxd2 : x ≠ d := fun z => by rw [z, hd'] at hp'; cases hp'
        have i1 : I d = none := sub.none hd00
        have i2 : (upd I d (.dT (kvsOf ms))) x = none := by rw [upd_ne hxd2]; exact sub.none hx
        have g : Grow I H (upd (upd I d (.dT (kvsOf ms))) x (.ins A.C_Board dx (bflds w h d))) H' := by
          refine ⟨(Le.new i1).trans (Le.new i2), fun b o q => s2 b o q, fun b o q => ?_, fun b o q => ?_⟩
          · by_cases c1 : b = x
            · subst c1; rw [upd_same] at q; cases q; exact hp'
            · rw [upd_ne c1] at q
              by_cases c2 : b = d
              · subst c2; rw [upd_same] at q; cases q; exact hd'
              · rw [upd_ne c2] at q; exact s2 b o (sub b o q)
          · by_cases c1 : b = x
            · subst c1; exact .inr (.of hx)
            · rw [upd_ne c1] at q
              by_cases c2 : b = d
              · subst c2; exact .inr (.of hd00)
              · rw [upd_ne c2] at q; exact .inl q
        obtain ⟨e1, e2⟩ := imm_out (x := .ref x) (t := .imm (brdD A.C_Board w h ms)) env' g (brd_at (dx := dx) (d := d) upd_same (by rw [upd_ne (Ne.symm hxd2), upd_same])) fun a ha => by simp at ha
        exact kq _ _ _ _ H' hp g.sub e1 e2
      · refine .inr (.inr (.inr ⟨a1, a2, i, z, hz', gd, ?_⟩))
        rcases hp with ⟨q, hp⟩ | ⟨q, q2, hp⟩ | ⟨q, q2, q3, hp⟩
        · exact .inl ⟨q, fun H1 k => xt hp (keep k)⟩
        · exact .inr (.inl ⟨q, q2, fun H1 k => xv hp (fun _ => .str _) (keep k)⟩)
        · exact .inr (.inr ⟨q, q2, q3, fun H1 k => xt hp (keep k)⟩)
/-- the list of the mirrors, sorted -/
def conMirrs (A : Ad) : Con := fun es P _ => ∃ (w h : Int) (ms : List Mir), es = [.imm (brdD A.C_Board w h ms)] ∧ ms.length ≤ 500 ∧ (ms.map mK).Nodup ∧ ∀ (ns : List Mir) (l : Addr), ns.Perm ms → ns.Pairwise Mle → P (.own l (mirsD ns)) es
theorem mirrs_of {K : PySem.W.Frag} {A : Ad} {vs : List V} {H : Hp} {Q : VK} {E : XK} (h : spD K (conMirrs A) vs H Q E) : spMirrs A vs H Q E := by
  obtain ⟨I, es, P, PX, sub, env, ⟨w, h, ms, rfl, hz, nd, hP⟩, kq, _⟩ := h
  have env' : EnvR K I H (vs.map some) (([brdD A.C_Board w h ms].map Ent.imm).map some) := env
  have r := imm_in env'
  cases r with
  | cons r1 r =>
    cases r
    obtain ⟨p, rfl, b⟩ := brd_of sub r1
    refine ⟨p, w, h, ms, rfl, b, hz, nd, fun ns l H' p1 p2 hl0 hl sm => ?_⟩
    have s0 : Sub I H' := fun b o q => sm b o (sub b o q)
    obtain ⟨I', xs, le, s', nw, hx, rr⟩ := mirs_in (K := K) s0 hl
    have g := grow_tups (I := I) sm s0 nw le s'
    have il : I' l = none := by
      cases z : I' l with
      | none => rfl
      | some o =>
        rcases nw l o z with q | ⟨ys, q⟩
        · rw [sub.none hl0] at q; cases q
        · rw [hx] at q; cases q
    obtain ⟨e1, e2⟩ := imm_out (x := .ref l) (t := .own l (mirsD ns)) env' g ⟨rfl, il, xs, hx, rr⟩ fun a ha => by simp at ha; subst ha; exact hl0
    exact kq _ _ _ I' H' (hP ns l p1 p2) s' e1 e2
/-- the law's own comparison, of things that are equal -/
def conSame (n : Nat) : Con := fun es P _ => ∃ (c : D), es = [.imm c, .imm c] ∧ okD n (toPy c) = true ∧ P (.imm (.bl true)) es
theorem same_of {K : PySem.W.Frag} {n : Nat} {vs : List V} {H : Hp} {Q : VK} {E : XK} (h : spD K (conSame n) vs H Q E) : spSame K (n + 1) vs H Q E := by
  obtain ⟨I, es, P, PX, sub, env, ⟨c, rfl, ok, hP⟩, kq, _⟩ := h
  have env' : EnvR K I H (vs.map some) (([c, c].map Ent.imm).map some) := env
  have r := imm_in env'
  cases r with
  | cons r1 r => cases r with
    | cons r2 r =>
      cases r
      refine ⟨_, _, toPy c, rfl, (r1.mono sub).dp ok, (r2.mono sub).dp ok, ok, fun H' sm => ?_⟩
      have g : Grow I H I H' := ⟨Le.refl, fun b o q => sm b o q, fun b o q => sm b o (sub b o q), fun b o q => .inl q⟩
      obtain ⟨e1, e2⟩ := imm_out (x := .bl true) (t := .imm (.bl true)) env' g (.bl true) fun a ha => by simp at ha
      exact kq _ _ _ I H' hP g.sub e1 e2
/-! ### == of two dicts whose keys are tuples and whose values are texts -/
section
variable {prog : Program} {w : World} {κ : Type} [DecidableEq κ] {knd : HeapKind prog w κ} {A : Around} {E : Value → Shared → Prop} {s : Shared}
def txt : Value → Option Str
  | .str a _ => some a
  | _ => none
def likeIn (ys : List (κ × Addr × Value)) (x : κ × Addr × Value) : Bool := ys.any fun y => decide (y.1 = x.1) && decide (txt y.2.2 = txt x.2.2)
theorem likeIn_at {ys : List (κ × Addr × Value)} (nd : (ys.map (·.1)).Nodup) {j : Nat} {k : κ} {p : Addr × Value} (h : ys[j]? = some (k, p)) (x : κ × Addr × Value) (e : x.1 = k) : likeIn ys x = decide (txt p.2 = txt x.2.2) := by
  subst e
  by_cases c : txt p.2 = txt x.2.2
  · rw [decide_eq_true c]
    exact List.any_eq_true.mpr ⟨_, List.mem_of_getElem? h, by simp [c]⟩
  · rw [decide_eq_false c]
    refine Bool.eq_false_iff.mpr fun q => ?_
    obtain ⟨y, hy, hq⟩ := List.any_eq_true.mp q
    simp only [Bool.and_eq_true, decide_eq_true_eq] at hq
    obtain ⟨i, hi⟩ := List.getElem?_of_mem hy
    have e1 : (ys.map (·.1))[i]? = some x.1 := by rw [List.getElem?_map, hi]; exact congrArg some hq.1
    have e2 : (ys.map (·.1))[j]? = some x.1 := by rw [List.getElem?_map, h]; rfl
    have hil : i < (ys.map (·.1)).length := (List.getElem?_eq_some_iff.mp e1).1
    have ij : i = j := (List.getElem?_inj hil nd).mp (e1.trans e2.symm)
    subst ij
    rw [hi] at h
    cases h
    exact c hq.2
theorem likeIn_none {ys : List (κ × Addr × Value)} {x : κ × Addr × Value} (h : ∀ (j : Nat) (p : Addr × Value), ys[j]? ≠ some (x.1, p)) : likeIn ys x = false := by
  refine Bool.eq_false_iff.mpr fun q => ?_
  obtain ⟨y, hy, hq⟩ := List.any_eq_true.mp q
  simp only [Bool.and_eq_true, decide_eq_true_eq] at hq
  obtain ⟨i, hi⟩ := List.getElem?_of_mem hy
  exact h i y.2 (by rw [hi, ← hq.1])
theorem pairs_like {nm : String} {a b : Addr} {xs ys : List (κ × Addr × Value)} {Q : Bool → Shared → Prop} (hr : knd.room A) (ha : (a == sysModules) = false) (hb : (b == sysModules) = false)
    (da : s.heap.DictOfH knd a xs) (db : s.heap.DictOfH knd b ys) (tx : ∀ x ∈ xs, ∃ z t, x.2.2 = .str z t) (ty : ∀ y ∈ ys, ∃ z t, y.2.2 = .str z t)
    (h : Q (xs.length == ys.length && xs.all (likeIn ys)) s) : wpAny (model prog w) A (Builtin.Dict.samePairs nm a b) Q E s := by
  obtain ⟨oa, es, ep, hoa, _, hda, hes, hka, _⟩ := da
  obtain ⟨ob, fs, fp, hob, _, hdb, hfs, hkb, ndb⟩ := db
  have za := size_of_entries hes
  have zb := size_of_entries hfs
  unfold Builtin.Dict.samePairs Builtin.Dict.showsAll
  rw [if_neg (show ¬ (a == sysModules) = true by rw [ha]; exact Bool.false_ne_true), if_neg (show ¬ (b == sysModules) = true by rw [hb]; exact Bool.false_ne_true)]
  refine wpAny_bind ?_
  refine wpAny_pure ?_
  refine wpAny_bind ?_
  refine wpAny_pure ?_
  refine wpAny_bind ?_
  refine wpAny_dictEntries hoa hda ?_
  dsimp only
  refine wpAny_bind ?_
  refine wpAny_dictEntries hob hdb ?_
  rw [za, zb]
  by_cases hn : xs.length = ys.length
  · rw [if_neg (by simp [hn])]
    have hq : Q (xs.all (likeIn ys)) s := by simpa [hn] using h
    refine wpAny_bind ?_
    refine wpAny_dictEpoch hoa hda ?_
    refine wpAny_bind ?_
    rw [Std.Legacy.Range.forIn_eq_forIn_range']
    simp only [Std.Legacy.Range.size, Nat.sub_zero, Nat.add_sub_cancel, Nat.div_one]
    have all_at : ∀ i (hi : i < xs.length), (xs.drop i).all (likeIn ys) = (likeIn ys xs[i] && (xs.drop (i + 1)).all (likeIn ys)) := fun i hi => by
      rw [List.drop_eq_getElem_cons hi, List.all_cons]
    refine wpAny_forIn_list _ (fun rest r st => st = s ∧ r = (none, ()) ∧ ∃ i, i ≤ xs.length ∧ rest = List.range' i (xs.length - i) ∧ (xs.drop i).all (likeIn ys) = xs.all (likeIn ys)) _ ?turn ?fin _ _ ⟨rfl, rfl, 0, Nat.zero_le _, by rw [Nat.sub_zero], by rw [List.drop_zero]⟩
    case fin =>
      rintro r st ⟨rfl, rfl, i, hi, hrest, hall⟩
      have hx : i = xs.length := by
        rcases Nat.lt_or_eq_of_le hi with c | c
        · rw [show xs.length - i = (xs.length - i - 1) + 1 by omega, List.range'_succ] at hrest
          cases hrest
        · exact c
      subst hx
      rw [List.drop_length] at hall
      refine wpAny_pure ?_
      have e : xs.all (likeIn ys) = true := hall.symm
      rw [e] at hq
      exact hq
    case turn =>
      rintro k rest r st ⟨rfl, rfl, i, hi, hrest, hall⟩
      have hlt : i < xs.length := by
        rcases Nat.lt_or_eq_of_le hi with c | c
        · exact c
        · rw [c, Nat.sub_self] at hrest
          cases hrest
      rw [show xs.length - i = (xs.length - (i + 1)) + 1 by omega, List.range'_succ] at hrest
      injection hrest with hk hrest
      subst hk
      rw [all_at k hlt] at hall
      have hat : es[k]? = some (entryOfKey knd xs[k]) := by rw [entry_at hes, List.getElem?_eq_getElem hlt]; rfl
      obtain ⟨z, t, ez⟩ := tx _ (List.getElem_mem hlt)
      refine wpAny_bind ?_
      refine wpAny_dictEntries hoa hda ?_
      rw [hat]
      dsimp only
      refine wpAny_bind ?_
      refine wpAny_mono (Q := fun c s2 => s2 = st ∧ c = likeIn ys xs[k]) ?_ (fun c s2 hc2 => ?_) fun _ _ z => z
      · -- the pair is looked for
        refine wpAny_holding ?_
        refine wpAny_bind ?_
        refine wpAny_dictFind_heap hr (hka _ (List.getElem_mem hlt)) hob hdb hfs hkb ndb (fun hno => ?_) fun j p hj => ?_
        · refine wpAny_pure ?_
          exact ⟨rfl, (likeIn_none hno).symm⟩
        · have hbt : fs[j]? = some (entryOfKey knd (xs[k].1, p)) := by rw [entry_at hfs, hj]; rfl
          obtain ⟨z2, t2, ez2⟩ := ty _ (List.mem_of_getElem? hj)
          have lk := likeIn_at ndb hj xs[k] rfl
          dsimp only
          refine wpAny_bind ?_
          refine wpAny_dictEntries hob hdb ?_
          rw [hbt]
          dsimp only
          refine wpAny_holding ?_
          show wpAny _ _ (eqBool xs[k].2.2 p.2) _ _ _
          have ez2' : p.2 = .str z2 t2 := ez2
          rw [lk, ez, ez2']
          refine wpAny_eqBool_str ?_
          refine ⟨rfl, ?_⟩
          by_cases c : z = z2
          · rw [decide_eq_true c, c]
            exact (decide_eq_true rfl).symm
          · rw [decide_eq_false c]
            exact (decide_eq_false (fun q => c (Option.some.inj q).symm)).symm
      · obtain ⟨rfl, hc⟩ := hc2
        cases c with
        | false =>
          rw [if_pos (by rfl)]
          refine wpAny_pure ?_
          refine wpAny_pure ?_
          rw [← hc, Bool.false_and] at hall
          rw [← hall] at hq
          exact hq
        | true =>
          rw [if_neg (by decide)]
          refine wpAny_bind ?_
          refine wpAny_dictEpoch hoa hda ?_
          rw [if_neg (by simp)]
          rw [← hc, Bool.true_and] at hall
          exact wpAny_pure ⟨rfl, rfl, k + 1, hlt, hrest, hall⟩
  · rw [if_pos (by simpa using hn)]
    have hf : (xs.length == ys.length) = false := by simpa using hn
    rw [hf, Bool.false_and] at h
    refine wpAny_bind ?_
    refine wpAny_rule ?_
    exact wpAny_pure h
end
section
theorem likeIn_val {H : Hp} {z : Str} {q : List Key × Addr × Value} {t : Tok} (eq : q.2.2 = .str z t) : ∀ {ls : List (List Key × V)} {ys : List (List Key × Addr × Value)}, KT H ls ys → (ys.map (·.1)).Nodup → (∀ p ∈ ls, ∃ z, p.2 = V.str z) →
    likeIn ys q = decide (valV ls q.1 = some (.str z))
  | [], _, r, _, _ => by
    cases r
    rfl
  | p :: ls, _, r, nd, tx => by
    cases r with
    | @cons _ y _ ys h r =>
      obtain ⟨e1, _, e3⟩ := h
      rw [List.map_cons, List.nodup_cons] at nd
      obtain ⟨z0, ez0⟩ := tx p (by simp)
      rw [ez0] at e3
      obtain ⟨t0, et0⟩ := e3
      have ih := likeIn_val eq r nd.2 fun p hp => tx p (by simp [hp])
      have cons : likeIn (y :: ys) q = ((decide (y.1 = q.1) && decide (txt y.2.2 = txt q.2.2)) || likeIn ys q) := List.any_cons
      obtain ⟨pk, pv⟩ := p
      dsimp only at ez0 e1
      subst ez0
      by_cases c : pk = q.1
      · have hn : likeIn ys q = false := by
          refine Bool.eq_false_iff.mpr fun hq => ?_
          obtain ⟨y', hy', hq'⟩ := List.any_eq_true.mp hq
          simp only [Bool.and_eq_true, decide_eq_true_eq] at hq'
          exact nd.1 (List.mem_map.mpr ⟨y', hy', by rw [hq'.1, ← c, e1]⟩)
        have hv : valV ((pk, V.str z0) :: ls) q.1 = some (.str z0) := valV_pos c
        rw [cons, hn, Bool.or_false, hv, et0, eq, decide_eq_true (show y.1 = q.1 by rw [← e1, c]), Bool.true_and]
        by_cases d : z0 = z
        · rw [d]
          rw [decide_eq_true rfl]
          exact decide_eq_true rfl
        · have e1' : decide (some (V.str z0) = some (V.str z)) = false := decide_eq_false (fun e => d (by injection e with e; injection e))
          rw [e1']
          exact decide_eq_false (fun e => d (Option.some.inj e))
      · have hv : valV ((pk, V.str z0) :: ls) q.1 = valV ls q.1 := valV_neg c
        rw [cons, hv, decide_eq_false (show ¬ y.1 = q.1 by rw [← e1]; exact c), Bool.false_and, Bool.false_or]
        exact ih
def eqT (ks ls : List (List Key × V)) : Bool := ks.length == ls.length && ks.all fun p => decide (valV ls p.1 = some p.2)
theorem all_like {H H' : Hp} {ls : List (List Key × V)} {ys : List (List Key × Addr × Value)} (r' : KT H' ls ys) (nd : (ys.map (·.1)).Nodup) (tl : ∀ p ∈ ls, ∃ z, p.2 = V.str z) : ∀ {ks : List (List Key × V)} {xs : List (List Key × Addr × Value)}, KT H ks xs → (∀ p ∈ ks, ∃ z, p.2 = V.str z) →
    xs.all (likeIn ys) = ks.all fun p => decide (valV ls p.1 = some p.2)
  | [], _, r, _ => by
    cases r
    rfl
  | p :: ks, _, r, tx => by
    cases r with
    | @cons _ x _ xs h r =>
      obtain ⟨e1, _, e3⟩ := h
      obtain ⟨z0, ez0⟩ := tx p (by simp)
      rw [ez0] at e3
      obtain ⟨t0, et0⟩ := e3
      rw [List.all_cons, List.all_cons, all_like r' nd tl r fun p hp => tx p (by simp [hp]), likeIn_val et0 r' nd tl, ez0, e1]
theorem txts {H : Hp} : ∀ {ks : List (List Key × V)} {xs : List (List Key × Addr × Value)}, KT H ks xs → (∀ p ∈ ks, ∃ z, p.2 = V.str z) → ∀ x ∈ xs, ∃ z t, x.2.2 = Value.str z t
  | [], _, r, _, x, hx => by
    cases r
    simp at hx
  | p :: ks, _, r, tx, x, hx => by
    cases r with
    | @cons _ y _ xs h r =>
      rcases List.mem_cons.mp hx with e | hx
      · subst e
        obtain ⟨_, _, e3⟩ := h
        obtain ⟨z0, ez0⟩ := tx p (by simp)
        rw [ez0] at e3
        obtain ⟨t0, et0⟩ := e3
        exact ⟨z0, t0, et0⟩
      · exact txts r (fun p hp => tx p (by simp [hp])) x hx
def rEqT : R2 := fun x y H Q => ∃ a b ks ls, x = .ref a ∧ y = .ref b ∧ H a = some (.dT ks) ∧ H b = some (.dT ls) ∧ (∀ p ∈ ks, ∃ z, p.2 = V.str z) ∧ (∀ p ∈ ls, ∃ z, p.2 = V.str z) ∧ Q (.bl (eqT ks ls)) H
theorem o_eqT {X : Cx} (hu : X.A.units + 1 < cLine) : OpR X (compareOp .Eq) rEqT := by
  intro pins s σ H x y v u Q I rx ry h
  obtain ⟨a, b, ks, ls, rfl, rfl, ea, eb, tk, tl, q⟩ := h
  obtain rfl : v = Value.ref a := rx
  obtain rfl : u = Value.ref b := ry
  obtain ⟨_, ya, xs, ra, da⟩ := dt_of I.hok ea
  obtain ⟨_, yb, ys, rb, db⟩ := dt_of I.hok eb
  have nd : (ys.map (·.1)).Nodup := by
    obtain ⟨_, _, _, _, _, _, _, _, n⟩ := db
    exact n
  refine wpAny_richCompare_same_room (op := .Eq) da.typeIs db.typeIs PySem.F.slot_dict_eq ?_ (by omega)
  refine wpAny_call_entry PySem.F.slot_dict_eq da.typeIs PySem.F.entry_dict_eq ?_ (PySem.F.args_dict_eq_2 _ _)
  refine wpAny_bind (m := Builtin.Dict.dictSlotArgs "__eq__" ⟨[.ref a, .ref b], []⟩) ?_
  unfold Builtin.Dict.dictSlotArgs
  refine wpAny_bind ?_
  refine wpAny_notOrdered_dict da.typeIs ?_
  refine wpAny_pure ?_
  refine wpAny_bind ?_
  refine wpAny_isInstance (T := "dict") db.typeIs PySem.F.sub_dict_dict ?_
  simp only [Bool.not_true, Bool.false_eq_true, if_false]
  refine wpAny_bind (m := Builtin.Dict.addrOf (.ref a)) ?_
  refine wpAny_pure ?_
  refine wpAny_bind (m := Builtin.Dict.addrOf (.ref b)) ?_
  refine wpAny_pure ?_
  refine wpAny_bind ?_
  refine pairs_like (tupleKind_room_in1 hu) ya yb da db (txts ra tk) (txts rb tl) ?_
  refine wpAny_pure ⟨_, rfl, (fun z => by cases z), ?_⟩
  have e : (xs.length == ys.length && xs.all (likeIn ys)) = eqT ks ls := by
    unfold eqT
    rw [all_like rb nd tl ra tk, Paired.length ra, Paired.length rb]
  rw [e]
  refine ⟨.bl (eqT ks ls), H, I, ?_, q⟩
  show Value.bool (eqT ks ls == true) = Value.bool (eqT ks ls)
  cases eqT ks ls <;> rfl
end
/-! ### boards compared -/
def spEqB (A : Ad) : Sp := fun vs H Q _ => ∃ (p q : Addr) (w h : Int) (ms : List Mir) (w2 h2 : Int) (ns : List Mir), vs = [.ref p, .ref q] ∧ BoardAt A.C_Board H p w h ms ∧ BoardAt A.C_Board H q w2 h2 ns ∧
  Q (.bl (decide (w = w2) && (decide (h = h2) && eqT (kvsOf ms) (kvsOf ns)))) H
theorem kvs_txt (ms : List Mir) : ∀ p ∈ kvsOf ms, ∃ z, p.2 = V.str z := fun p hp => by
  unfold kvsOf at hp
  obtain ⟨m, _, rfl⟩ := List.mem_map.mp hp
  exact ⟨_, rfl⟩
theorem perm_of_sub : ∀ {l r : List Mir}, l.Nodup → (∀ x ∈ l, x ∈ r) → r.length ≤ l.length → l.Perm r
  | [], [], _, _, _ => List.Perm.refl _
  | [], _ :: _, _, _, h => by simp at h
  | a :: l, r, nd, sub, h => by
    obtain ⟨na, nl⟩ := List.nodup_cons.mp nd
    have ha : a ∈ r := sub a (by simp)
    have p := List.perm_cons_erase ha
    have e := List.length_erase_of_mem ha
    have q : l.Perm (r.erase a) := perm_of_sub nl (fun x hx => (List.mem_erase_of_ne (fun z : x = a => na (by rw [← z]; exact hx))).2 (sub x (by simp [hx]))) (by rw [e]; simp at h; omega)
    exact (q.cons a).trans p.symm
/-- the dicts are equal just where the mirrors are the same -/
theorem eqT_perm {ms ns : List Mir} (n1 : (ms.map mK).Nodup) (n2 : (ns.map mK).Nodup) : eqT (kvsOf ms) (kvsOf ns) = true ↔ ms.Perm ns := by
  unfold eqT
  rw [Bool.and_eq_true, beq_iff_eq, kvs_len, kvs_len]
  constructor
  · rintro ⟨hl, ha⟩
    have sub : ∀ m ∈ ms, m ∈ ns := fun m hm => by
      have q := List.all_eq_true.mp ha (ptK (mK m), V.str m.2.2) (by unfold kvsOf; exact List.mem_map.mpr ⟨m, hm, rfl⟩)
      have q := of_decide_eq_true q
      have hk : mK m ∈ ns.map mK := by
        refine Classical.byContradiction fun c => ?_
        have e : valV (kvsOf ns) (ptK (mK m)) = none := kvs_find.mpr c
        rw [show valV (kvsOf ns) (ptK (mK m), V.str m.2.2).1 = valV (kvsOf ns) (ptK (mK m)) from rfl, e] at q
        cases q
      obtain ⟨m', hm', e⟩ := List.mem_map.mp hk
      have g := kvs_get n2 hm'
      rw [e] at g
      have q2 : some (V.str m'.2.2) = some (V.str m.2.2) := g.symm.trans q
      have e2 : m'.2.2 = m.2.2 := by
        have := Option.some.inj q2
        injection this
      have e3 : m' = m := by
        obtain ⟨a, b, c⟩ := m'
        obtain ⟨a', b', c'⟩ := m
        have e4 : (a, b) = (a', b') := e
        injection e4 with e5 e6
        dsimp only at e2
        rw [e5, e6, e2]
      rw [← e3]
      exact hm'
    have d1 : ms.Nodup := (List.pairwise_map.mp n1).imp fun h e => h (congrArg mK e)
    exact perm_of_sub d1 sub (by omega)
  · intro p
    refine ⟨p.length_eq, List.all_eq_true.mpr fun kv hkv => ?_⟩
    unfold kvsOf at hkv
    obtain ⟨m, hm, rfl⟩ := List.mem_map.mp hkv
    exact decide_eq_true (kvs_get n2 (p.mem_iff.mp hm))
section
variable {P : Program} {w : World} {K : PySem.W.Frag} {mg : Str → Option Value} {base : Heap} {A : Ad}
theorem ok_Board___eq__ (T : Txt K mg A) : FnOk P w K mg base CX0 2 A.f_Board___eq__ A.d_Board___eq__ P_Board___eq__ (spEqB A) := by
  refine T.F_Board___eq__.ok sc_Board___eq__ (fun vs H Q E h => ?_) (fun cdv A' outer s H vs Q E hr h => ?_)
  · obtain ⟨p, q, a, b, ms, c, d, ns, rfl, _⟩ := h
    rfl
  · obtain ⟨p, q, w', h', ms, w2, h2, ns, rfl, ⟨dx, d, hp, hd⟩, ⟨dy, e, hq, he⟩, kk⟩ := h
    have hu := hu_of hr
    refine ⟨_, (pss_one (ps_ret (pe_and (pe_callB call_isi (by rfl) T.n_isinstance (by decide +kernel) (pa_cons (pv 1) (pa_cons (pe_glob (v := .ref A.C_Board) rfl T.g_Board rfl) pa_nil))) (pe_and (pe_cmpR op_eq (pe_fld (pv 0) rfl) (pe_fld (pv 1) rfl) (nomark _)) (pe_and (pe_cmpR op_eq (pe_fld (pv 0) rfl) (pe_fld (pv 1) rfl) (nomark _)) (pe_one (pe_cmpR (o_eqT hu) (pe_fld (pv 0) rfl) (pe_fld (pv 1) rfl) (nomark _)))))))), ?_⟩
    walk_at "rs"
    refine ⟨.ref q, .ref A.C_Board, .ref A.C_Board, .ref A.C_Board, true, rfl, .own _, .base (.ins hq T.cl_Board T.i1_Board T.i2_Board T.i3_Board T.i4_Board), (by unfold PySem.W.kitOne; rw [if_pos (beq_self_eq_true _)]), ?_⟩
    walk_at "rs"
    refine ⟨p, A.C_Board, dx, _, _, rfl, hp, T.cl_Board, T.na_Board_wide, bf_wide _ _ _, ?_⟩
    walk_at "rs"
    refine ⟨q, A.C_Board, dy, _, _, rfl, hq, T.cl_Board, T.na_Board_wide, bf_wide _ _ _, ?_⟩
    walk_at "rs"
    refine r_ite (fun c1 => ?_) (fun c1 => ?_)
    · have e1 : w' = w2 := by injection c1
      rw [decide_eq_true e1, Bool.true_and] at kk
      walk_at "rs"
      refine ⟨p, A.C_Board, dx, _, _, rfl, hp, T.cl_Board, T.na_Board_high, bf_high _ _ _, ?_⟩
      walk_at "rs"
      refine ⟨q, A.C_Board, dy, _, _, rfl, hq, T.cl_Board, T.na_Board_high, bf_high _ _ _, ?_⟩
      walk_at "rs"
      refine r_ite (fun c2 => ?_) (fun c2 => ?_)
      · have e2 : h' = h2 := by injection c2
        rw [decide_eq_true e2, Bool.true_and] at kk
        walk_at "rs"
        refine ⟨p, A.C_Board, dx, _, _, rfl, hp, T.cl_Board, T.na_Board_kinds, bf_kinds _ _ _, ?_⟩
        walk_at "rs"
        refine ⟨q, A.C_Board, dy, _, _, rfl, hq, T.cl_Board, T.na_Board_kinds, bf_kinds _ _ _, ?_⟩
        exact ⟨d, e, kvsOf ms, kvsOf ns, rfl, rfl, hd, he, kvs_txt _, kvs_txt _, kk⟩
      · rw [decide_eq_false (fun e => c2 (by rw [e])), Bool.false_and] at kk
        exact kk
    · rw [decide_eq_false (fun e => c1 (by rw [e])), Bool.false_and] at kk
      exact kk
end
section
variable {P : Program} {w : World} {K : PySem.W.Frag} {mg : Str → Option Value} {base : Heap} {A : Ad}
theorem int_get {ns : List Int} {i : Nat} {x : V} (h : (ns.map V.int)[i]? = some x) : ∃ z, ns[i]? = some z ∧ x = V.int z := by
  rw [List.getElem?_map] at h
  cases e : ns[i]? with
  | none => rw [e] at h; cases h
  | some z => rw [e] at h; exact ⟨z, rfl, (Option.some.inj h).symm⟩
theorem ok__law_hand (T : Txt K mg A) : FnOk P w K mg base CX0 1 A.f__law_hand A.d__law_hand P__law_hand (spHand K) := by
  refine T.F__law_hand.ok sc__law_hand (fun vs H Q E h => ?_) (fun cdv A' outer s H vs Q E hr h => ?_)
  · obtain ⟨a, ns, rfl, _⟩ := h
    rfl
  · obtain ⟨a, ns, rfl, hs, hl, kk⟩ := h
    refine ⟨_, (pss_cons (ps_set (i := 1) sc__law_hand.nd rfl (Or.inl rfl) pe_int)
(pss_cons (ps_for PassesOwn.never rfl (pi_list (pv 0)) (pg_name (i := 2) sc__law_hand.nd rfl (Or.inl rfl))
(pss_one (ps_set (i := 1) sc__law_hand.nd rfl (Or.inl rfl) (pe_op op_mod (pe_callTy c_int (by rfl) T.n_int (by decide +kernel) (pa_cons (pe_op op_add (pe_op op_mul (pv 1) pe_int) (pe_op op_mod (pv 2) pe_int)) pa_nil)) pe_int))))
(pss_one (ps_ret (pe_lst (pa_cons (pe_lc (own := [("_law_cell", 2)]) (g := gName 2) (tt := tYes) (by rfl) sc__law_hand.nd (pi_list (pv 0)) (blkOk_by (own := [("_law_cell", 2)]) (N := N__law_hand) (sc := defScope s__law_hand) (by decide +kernel)) (fun _ _ _ _ _ => by exact (pg_name (i := 2) sc__law_hand.nd rfl (Or.inl rfl))) (fun _ _ _ _ _ => by exact pts_nil) (fun _ _ _ _ _ => by exact (pe_callB c_abs (by rfl) T.n_abs (by decide +kernel) (pa_cons (pv 2) pa_nil)))) (pa_cons pe_int (pa_cons (pv 1) pa_nil)))))))), ?_⟩
    walk_at "rs"
    refine ⟨a, rfl, ⟨_, hs⟩, for_list (K := K) (a := a) (xs := ns.map V.int) (fun i σ H1 => H1 = H ∧ ∃ (t : Int) (v : Option V), σ = [some (.ref a), some (.int t), v] ∧ 0 ≤ t ∧ t < 2147483629) ?_ ?_ ?_ ?_⟩
    · exact ⟨rfl, 5, none, rfl, by decide, by decide⟩
    · rintro i σ H1 _ ⟨rfl, _⟩
      exact hs
    · rintro i x σ H1 hi ⟨rfl, t, v, rfl, t0, t1⟩
      obtain ⟨z, hz, rfl⟩ := int_get hi
      walk_at "rs"
      exact ⟨rfl, _, _, rfl, (mod_rng (by decide)).1, (mod_rng (by decide)).2⟩
    · rintro σ H1 ⟨rfl, t, v, rfl, t0, t1⟩
      walk_at "rs"
      refine ⟨a, rfl, ⟨_, hs⟩, fun D hD => lc_list (K := K) (a := a) (xs := ns.map V.int) (fun j H2 => Same H1 H2 ∧ ∃ cs : List Int, H2 D = some (.lst (cs.map V.int)) ∧ (∀ x ∈ cs, 0 ≤ x) ∧ cs.length = j) ?_ ?_ ?_ ?_⟩
      · exact ⟨Same.new hD, [], upd_same, fun _ h => by simp at h, rfl⟩
      · rintro j H2 _ ⟨sm, _⟩
        exact sm.seq hs
      · rintro j x H2 hj ⟨sm, cs, hD2, hcs, hcl⟩
        obtain ⟨z, hz, rfl⟩ := int_get hj
        have hjl : j < ns.length := (List.getElem?_eq_some_iff.mp hz).1
        walk_at "rs"
        refine ⟨rfl, ?_⟩
        walk_at "rs"
        refine ⟨cs.map V.int, hD2, by rw [List.length_map]; exact small1000 (by omega), sm.mut hD, cs ++ [if z < 0 then -z else z], by rw [upd_same, List.map_append]; rfl, ?_, by simp [hcl]⟩
        intro y hy
        rcases List.mem_append.mp hy with hy | hy
        · exact hcs y hy
        · rw [List.mem_singleton] at hy
          subst hy
          split <;> omega
      · rintro H2 ⟨sm, cs, hD2, hcs, hcl⟩
        rw [List.length_map] at hcl
        walk_at "rs"
        intro q hq
        have hDq : D ≠ q := ne_of_none hD2 hq
        refine kk q D _ (sm.free hq) hD ⟨cs, 0, t, upd_same, by walk_at "hl", hDq, hcs, by omega, Nat.le_refl _⟩ (sm.trans (Same.new hq))
end
/-! ### the defs with proofs of their own, as promises over data -/
def conHand : Con := fun es P _ => ∃ ns : List Int, es = [.imm (.fls (ns.map D.int))] ∧ ns.length ≤ 63 ∧ ∀ p c : Addr, P (.hand p c 0) es
def conBig : Con := fun es P _ => ∃ p c n lim, es = [.hand p c n, .int lim] ∧ n < 990000000 ∧ 0 < lim ∧ ∀ r : Int, 0 ≤ r → r < lim → P (.int r) [.hand p c (n + 4), .int lim]
def conEqB (A : Ad) : Con := fun es P _ => ∃ (w h : Int) (ms : List Mir) (w2 h2 : Int) (ns : List Mir), es = [.imm (brdD A.C_Board w h ms), .imm (brdD A.C_Board w2 h2 ns)] ∧ P (.imm (.bl (decide (w = w2) && (decide (h = h2) && eqT (kvsOf ms) (kvsOf ns))))) es
theorem ints_of {K : PySem.W.Frag} {I : Hp} : ∀ {xs : List V} {ns : List Int}, Reps K I xs (ns.map D.int) → xs = ns.map V.int
  | _, [], r => by cases r; rfl
  | _, n :: ns, r => by
    rw [List.map_cons] at r
    cases r with
    | cons r1 r2 => cases r1; rw [ints_of r2]; rfl
theorem ints_in {K : PySem.W.Frag} {I : Hp} : ∀ ns : List Int, Reps K I (ns.map V.int) (ns.map D.int)
  | [] => .nil
  | n :: ns => .cons (.int n) (ints_in ns)
theorem ite_d {p : Prop} [Decidable p] {A B : Prop} (h1 : p → A) (h2 : ¬ p → B) : if decide p = true then A else B := by
  by_cases h : p
  · rw [if_pos (decide_eq_true h)]; exact h1 h
  · rw [if_neg (by rw [decide_eq_true_iff]; exact h)]; exact h2 h
theorem ite_nd {p : Prop} [Decidable p] {A B : Prop} (h1 : ¬ p → A) (h2 : p → B) : if (!decide p) = true then A else B := by
  by_cases h : p
  · rw [decide_eq_true h]; exact (if_neg (by decide)).mpr (h2 h)
  · rw [decide_eq_false h]; exact (if_pos rfl).mpr (h1 h)
theorem ite_nb {b : Bool} {A B : Prop} (h1 : b = false → A) (h2 : b = true → B) : if (!b) = true then A else B := by
  cases b
  · exact h1 rfl
  · exact h2 rfl
theorem ite_b {b : Bool} {A B : Prop} (h1 : b = true → A) (h2 : b = false → B) : if b = true then A else B := by
  cases b
  · exact h2 rfl
  · exact h1 rfl
section
variable {e : En} {P : Rv → En → Prop} {fd fk fx : EvF} {r : Rv}
theorem s_dget1 (k : fd e fun r1 e1 => (∃ c, val e1 r1 = some c ∧ ((∃ es, c = .dic es) ∨ ∃ es, c = .dik es)) ∧ fk e1 fun r2 e2 => ∃ c d, val e2 r1 = some c ∧ val e2 r2 = some d ∧ dLook c d fun p => P (.im (p.getD .non)) e2) : eDGet1 fd fk e P := k
theorem s_dget2 (k : fd e fun r1 e1 => (∃ c, val e1 r1 = some c ∧ ((∃ es, c = .dic es) ∨ ∃ es, c = .dik es)) ∧ fk e1 fun r2 e2 => fx e2 fun r3 e3 => ∃ c d q e4, val e3 r1 = some c ∧ val e3 r2 = some d ∧ frz e3 r3 = some (q, e4) ∧ dLook c d fun p => P (.im (p.getD q)) e4) : eDGet2 fd fk fx e P := k
theorem x_isT {R : Prop} {es : List (List Key × D)} (h : val e r = some (.dic es)) (k : R) : (∃ c, val e r = some c ∧ ((∃ es, c = .dic es) ∨ ∃ es, c = .dik es)) ∧ R := ⟨⟨_, h, .inl ⟨es, rfl⟩⟩, k⟩
theorem x_isK {R : Prop} {es : List (Key × D)} (h : val e r = some (.dik es)) (k : R) : (∃ c, val e r = some c ∧ ((∃ es, c = .dic es) ∨ ∃ es, c = .dik es)) ∧ R := ⟨⟨_, h, .inr ⟨es, rfl⟩⟩, k⟩
theorem x_get2 {r1 r2 r3 : Rv} {c d q : D} {e1 : En} {R : D → D → D → En → Prop} (h1 : val e r1 = some c) (h2 : val e r2 = some d) (h3 : frz e r3 = some (q, e1)) (k : R c d q e1) : ∃ c d q e4, val e r1 = some c ∧ val e r2 = some d ∧ frz e r3 = some (q, e4) ∧ R c d q e4 := ⟨c, d, q, e1, h1, h2, h3, k⟩
end
theorem x_px {K : PySem.W.Frag} {es es' : List Ent} {I H : Hp} {E : XK} {PX : Addr → D → List Ent → Prop} {C : Addr} {d : D} {e : En} (b : BackE es e es') (k : PX C d es') : (frOf K es I H E PX).PX C d e := ⟨es', b, k⟩
theorem map_get {α β : Type} {f : α → β} {l : List α} {i : Nat} {c : β} (h : (l.map f)[i]? = some c) : ∃ z, l[i]? = some z ∧ c = f z := by
  rw [List.getElem?_map] at h
  cases e : l[i]? with
  | none => rw [e] at h; cases h
  | some z => rw [e] at h; exact ⟨z, rfl, (Option.some.inj h).symm⟩
theorem take_suc {α : Type} {l : List α} {i : Nat} {z : α} (h : l[i]? = some z) : l.take (i + 1) = l.take i ++ [z] := by
  rw [List.take_add_one, h]; rfl
theorem s_cut {e : En} {d : Ed} {f g : SvF} (J : En → Prop) (h : f e { d with nx := J }) (k : ∀ e1, J e1 → g e1 d) : sCut f g e d := ⟨J, h, k⟩
theorem o_eqP {a b c d : Int} {P : Ent → Prop} (k : P (.imm (.bl (decide (a = c ∧ b = d))))) : oEq (.tup [.int a, .int b]) (.tup [.int c, .int d]) P := by
  refine ⟨rfl, rfl, ?_⟩
  have e : eqD (.tup [.int a, .int b]) (.tup [.int c, .int d]) = decide (a = c ∧ b = d) := by
    unfold eqD
    simp only [toPy, toPys, PyData.eqv, PyData.eqvAll, Bool.and_true]
    by_cases h1 : a = c <;> by_cases h2 : b = d <;> simp [h1, h2]
  rw [e]
  exact k
def oNeg : DO1
  | .int i, P => P (.imm (.int (-i)))
  | _, _ => False
theorem o_neg {i : Int} {P : Ent → Prop} (k : P (.imm (.int (-i)))) : oNeg (.int i) P := k
theorem de_neg {X : Cx} {F : Fr} {a : Expr} {f : EvF} {pos : Pos} (h : DE X F a f) : DE X F (.UnaryOp .USub a pos) (eUn oNeg f) := by
  obtain ⟨t, p, d⟩ := h
  refine ⟨_, pe_un un_neg p, DT.un (fun I H x c P Q s v h k => ?_) d⟩
  cases c with
  | int i =>
    rw [v.int]
    exact ⟨i, rfl, k.imm s h (.int _)⟩
  | _ => exact h.elim
theorem hu65_of {k : Nat} {A : Around} (r : Room k A) : A.units + 65 < cLine := by have := r.un; omega
section
variable {K : PySem.W.Frag} {A : Ad} {vs : List V} {H : Hp} {Q : VK} {E : XK}
theorem hand_of (h : spD K conHand vs H Q E) : spHand K vs H Q E := by
  obtain ⟨I, es, P, PX, sub, env, ⟨ns, rfl, hl, hP⟩, kq, _⟩ := h
  have env' : EnvR K I H (vs.map some) (([D.fls (ns.map D.int)].map Ent.imm).map some) := env
  have r := imm_in env'
  cases r with
  | cons r1 r =>
    cases r
    cases r1 with
    | @fls a xs _ hs rr =>
      have e := ints_of rr
      subst e
      refine ⟨a, ns, rfl, Le.sqL sub hs, hl, fun p c H' hp hc hh sm => ?_⟩
      have g : Grow I H I H' := ⟨Le.refl, fun b o q => sm b o q, fun b o q => sm b o (sub b o q), fun b o q => .inl q⟩
      obtain ⟨e1, s1⟩ := imm_out (x := .ref p) (t := .hand p c 0) env' g ⟨rfl, sub.none hp, sub.none hc, ⟨hh⟩⟩ fun a ha => by
        simp at ha
        rcases ha with rfl | rfl
        · exact hp
        · exact hc
      exact kq _ _ _ I H' (hP p c) g.sub e1 s1
theorem big_of (h : spD K conBig vs H Q E) : spBig vs H Q E := by
  obtain ⟨I, es, P, PX, sub, env, ⟨p, c, n, lim, rfl, hn, h0, hP⟩, kq, _⟩ := h
  obtain ⟨rfl, ip, ic, tok⟩ := hand_in1 env
  refine ⟨p, c, n, lim, rfl, tok.at_, hn, h0, fun r H' r0 r1 hh kp => ?_⟩
  obtain ⟨e1, s1⟩ := hand_out (t := .int r) (x := .int r) env imms_int1 kp ⟨hh⟩ Le.refl (fun _ _ q => .inl q) (.int r) fun a ha => by simp at ha
  exact kq _ _ _ I H' (hP r r0 r1) (hand_sub sub ip ic kp) e1 s1
theorem eqB_of (h : spD K (conEqB A) vs H Q E) : spEqB A vs H Q E := by
  obtain ⟨I, es, P, PX, sub, env, ⟨w, h, ms, w2, h2, ns, rfl, hP⟩, kq, _⟩ := h
  have env' : EnvR K I H (vs.map some) (([brdD A.C_Board w h ms, brdD A.C_Board w2 h2 ns].map Ent.imm).map some) := env
  have r := imm_in env'
  cases r with
  | cons r1 r => cases r with
    | cons r2 r =>
    cases r
    obtain ⟨p, rfl, b⟩ := brd_of sub r1
    obtain ⟨q, rfl, b2⟩ := brd_of sub r2
    refine ⟨p, q, w, h, ms, w2, h2, ns, rfl, b, b2, ?_⟩
    obtain ⟨e1, e2⟩ := imm_out (x := .bl _) (t := .imm (.bl _)) env' (Grow.refl sub) (.bl _) fun a ha => by simp at ha
    exact kq _ _ _ I H hP sub e1 e2
end
section
variable {P : Program} {w : World} {K : PySem.W.Frag} {mg : Str → Option Value} {base : Heap} {A : Ad}
theorem okd_SandError___init__ (T : Txt K mg A) : FnOk P w K mg base CX0 1 A.f_SandError___init__ A.d_SandError___init__ P_SandError___init__ (spErr K) := ok_SandError___init__ T
theorem okd__law_hand (T : Txt K mg A) : FnOk P w K mg base (L2.CX P w) 1 A.f__law_hand A.d__law_hand P__law_hand (spD K conHand) := FnOk.lift (ok__law_hand T) fun _ _ _ _ h => hand_of h
theorem okd__law_take (T : Txt K mg A) : FnOk P w K mg base (L2.CX P w) 1 A.f__law_take A.d__law_take P__law_take (spD K conTake) := FnOk.lift (ok__law_take T) fun _ _ _ _ h => take_of h
theorem okd__law_big (T : Txt K mg A) : FnOk P w K mg base (L2.CX P w) 2 A.f__law_big A.d__law_big P__law_big (spD K conBig) := FnOk.lift (ok__law_big T) fun _ _ _ _ h => big_of h
theorem okd__law_sizes (T : Txt K mg A) : FnOk P w K mg base (L2.CX P w) 2 A.f__law_sizes A.d__law_sizes P__law_sizes (spD K conSizes) := FnOk.lift (ok__law_sizes T) fun _ _ _ _ h => sizes_of h
theorem okd__law_mirrors (T : Txt K mg A) : FnOk P w K mg base (L2.CX P w) 2 A.f__law_mirrors A.d__law_mirrors P__law_mirrors (spD K conMirrors) := FnOk.lift (ok__law_mirrors T) fun _ _ _ _ h => mirrors_of h
theorem okd__law_far (T : Txt K mg A) : FnOk P w K mg base (L2.CX P w) 4 A.f__law_far A.d__law_far P__law_far (spD K conFar) := FnOk.lift (ok__law_far T) fun _ _ _ _ h => far_of h
theorem okd_Board___init__ (T : Txt K mg A) : FnOk P w K mg base (L2.CX P w) 5 A.f_Board___init__ A.d_Board___init__ P_Board___init__ (spBoard A) := ok_Board___init__ T
theorem okd_Board___eq__ (T : Txt K mg A) : FnOk P w K mg base (L2.CX P w) 2 A.f_Board___eq__ A.d_Board___eq__ P_Board___eq__ (spD K (conEqB A)) := FnOk.lift (ok_Board___eq__ T) fun _ _ _ _ h => eqB_of h
end
/-! ### turns -/
def mvd (way : Str) (w h x y : Int) : Int × Int :=
  if way = "quarter" then (2 * h - y, x) else if way = "half" then (2 * w - x, 2 * h - y) else if way = "back" then (y, 2 * w - x) else if way = "flip" then (x, 2 * h - y) else if way = "mirror" then (2 * w - x, y) else if way = "cross" then (y, x) else if way = "anti" then (2 * h - y, 2 * w - x) else (x, y)
def swp (way : Str) : Bool := inV (.str way) [.str "quarter", .str "back", .str "cross", .str "anti"]
def wayOk (way : Str) : Bool := inV (.str way) [.str "same", .str "quarter", .str "half", .str "back", .str "flip", .str "mirror", .str "cross", .str "anti"]
def okK (k : Str) : Str := if k = "-" then "|" else "-"
/-- one fact of each way, one of none -/
theorem mvd_cases {P : Bool → (Int → Int → Int → Int → Int × Int) → Prop} (way : Str)
    (h_quarter : P true fun w h x y => (2 * h - y, x))
    (h_half : P false fun w h x y => (2 * w - x, 2 * h - y))
    (h_back : P true fun w h x y => (y, 2 * w - x))
    (h_flip : P false fun w h x y => (x, 2 * h - y))
    (h_mirror : P false fun w h x y => (2 * w - x, y))
    (h_cross : P true fun w h x y => (y, x))
    (h_anti : P true fun w h x y => (2 * h - y, 2 * w - x))
    (h_same : P false fun _ _ x y => (x, y)) : P (swp way) (mvd way) := by
  by_cases c0 : way = "quarter"
  · have e : swp way = true := by rw [c0]; decide +kernel
    have f : mvd way = fun w h x y => (2 * h - y, x) := by
      funext w h x y
      unfold mvd
      rw [if_pos c0]
    rw [e, f]
    exact h_quarter
  by_cases c1 : way = "half"
  · have e : swp way = false := by rw [c1]; decide +kernel
    have f : mvd way = fun w h x y => (2 * w - x, 2 * h - y) := by
      funext w h x y
      unfold mvd
      rw [if_neg c0, if_pos c1]
    rw [e, f]
    exact h_half
  by_cases c2 : way = "back"
  · have e : swp way = true := by rw [c2]; decide +kernel
    have f : mvd way = fun w h x y => (y, 2 * w - x) := by
      funext w h x y
      unfold mvd
      rw [if_neg c0, if_neg c1, if_pos c2]
    rw [e, f]
    exact h_back
  by_cases c3 : way = "flip"
  · have e : swp way = false := by rw [c3]; decide +kernel
    have f : mvd way = fun w h x y => (x, 2 * h - y) := by
      funext w h x y
      unfold mvd
      rw [if_neg c0, if_neg c1, if_neg c2, if_pos c3]
    rw [e, f]
    exact h_flip
  by_cases c4 : way = "mirror"
  · have e : swp way = false := by rw [c4]; decide +kernel
    have f : mvd way = fun w h x y => (2 * w - x, y) := by
      funext w h x y
      unfold mvd
      rw [if_neg c0, if_neg c1, if_neg c2, if_neg c3, if_pos c4]
    rw [e, f]
    exact h_mirror
  by_cases c5 : way = "cross"
  · have e : swp way = true := by rw [c5]; decide +kernel
    have f : mvd way = fun w h x y => (y, x) := by
      funext w h x y
      unfold mvd
      rw [if_neg c0, if_neg c1, if_neg c2, if_neg c3, if_neg c4, if_pos c5]
    rw [e, f]
    exact h_cross
  by_cases c6 : way = "anti"
  · have e : swp way = true := by rw [c6]; decide +kernel
    have f : mvd way = fun w h x y => (2 * h - y, 2 * w - x) := by
      funext w h x y
      unfold mvd
      rw [if_neg c0, if_neg c1, if_neg c2, if_neg c3, if_neg c4, if_neg c5, if_pos c6]
    rw [e, f]
    exact h_anti
  have e : swp way = false := by
    unfold swp inV
    simp [eqV, Ne.symm c0, Ne.symm c2, Ne.symm c5, Ne.symm c6]
  have f : mvd way = fun _ _ x y => (x, y) := by
    funext w h x y
    unfold mvd
    rw [if_neg c0, if_neg c1, if_neg c2, if_neg c3, if_neg c4, if_neg c5, if_neg c6]
  rw [e, f]
  exact h_same
theorem mvd_ins (way : Str) {w h x y : Int} (i : Ins w h x y) : Ins (if swp way then h else w) (if swp way then w else h) (mvd way w h x y).1 (mvd way w h x y).2 := by
  refine mvd_cases (P := fun b f => Ins (if b then h else w) (if b then w else h) (f w h x y).1 (f w h x y).2) way ?_ ?_ ?_ ?_ ?_ ?_ ?_ ?_ <;> (unfold Ins at *; dsimp only; simp only [Bool.false_eq_true, if_false, if_true]; omega)
theorem mvd_inj (way : Str) {w h x y x' y' : Int} : mvd way w h x y = mvd way w h x' y' → x = x' ∧ y = y' := by
  refine mvd_cases (P := fun _ f => f w h x y = f w h x' y' → x = x' ∧ y = y') way ?_ ?_ ?_ ?_ ?_ ?_ ?_ ?_ <;> (intro e; injection e with e1 e2; omega)
def mvM (way : Str) (w h : Int) (m : Mir) : Mir := ((mvd way w h m.1 m.2.1).1, (mvd way w h m.1 m.2.1).2, if swp way then okK m.2.2 else m.2.2)
theorem okK_ok (k : Str) : KindOk (okK k) := by
  unfold okK KindOk
  split
  · exact .inr rfl
  · exact .inl rfl
theorem GoodMs.moved {w h : Int} {ms : List Mir} (g : GoodMs w h ms) (way : Str) : GoodMs (if swp way then h else w) (if swp way then w else h) (ms.map (mvM way w h)) := by
  refine ⟨fun m hm => ?_, fun m hm => ?_, ?_⟩
  · obtain ⟨z, hz, rfl⟩ := List.mem_map.mp hm
    exact mvd_ins way (g.ins z hz)
  · obtain ⟨z, hz, rfl⟩ := List.mem_map.mp hm
    show KindOk (if swp way then okK z.2.2 else z.2.2)
    split
    · exact okK_ok _
    · exact g.kind z hz
  · have e : (ms.map (mvM way w h)).map mK = (ms.map mK).map fun z => mvd way w h z.1 z.2 := by
      rw [List.map_map, List.map_map]
      rfl
    rw [e]
    refine List.Pairwise.map _ (fun a b hab heq => ?_) g.nd
    obtain ⟨e1, e2⟩ := mvd_inj way heq
    exact hab (Prod.ext e1 e2)
theorem GoodMs.perm {w h : Int} {ms ns : List Mir} (g : GoodMs w h ms) (p : ns.Perm ms) : GoodMs w h ns :=
  ⟨fun m hm => g.ins m (p.mem_iff.mp hm), fun m hm => g.kind m (p.mem_iff.mp hm), ((p.map mK).nodup_iff).mpr g.nd⟩
def spOther : Sp := fun vs H Q _ => ∃ k : Str, vs = [.str k] ∧ Q (.str (okK k)) H
def spMoved : Sp := fun vs H Q _ => ∃ (way : Str) (w h : Int) (q : Addr) (x y : Int), vs = [.str way, .int w, .int h, .ref q] ∧ H q = some (.tup [.int x, .int y]) ∧
  ∀ (q' : Addr) (H' : Hp), H' q' = some (.tup (ptV (mvd way w h x y))) → Same H H' → Q (.ref q') H'
def spTurned (A : Ad) : Sp := fun vs H Q E => ∃ (p : Addr) (way : Str) (w h : Int) (ms : List Mir), vs = [.ref p, .str way] ∧ BoardAt A.C_Board H p w h ms ∧ GoodMs w h ms ∧ 1 ≤ w ∧ 1 ≤ h ∧ ms.length ≤ 500 ∧
  (wayOk way = false → WishV A.C_InvalidTurn (.str way) E H) ∧ (wayOk way = true → ∀ (b : Addr) (H' : Hp) (ns : List Mir), ns.Perm (ms.map (mvM way w h)) → BoardAt A.C_Board H' b (if swp way then h else w) (if swp way then w else h) ns → Same H H' → Q (.ref b) H')
theorem str_ne {a b : Str} (h : ¬ V.str a = V.str b) : ¬ a = b := fun e => h (by rw [e])
theorem str_eq {a b : Str} (h : V.str a = V.str b) : a = b := by injection h
section
variable {P : Program} {w : World} {K : PySem.W.Frag} {mg : Str → Option Value} {base : Heap} {A : Ad}
end

section
local macro_rules | `(tactic| walk_at "al") => `(tactic| first
  | omega
  | exact Or.inl (Or.inl ⟨by omega, by omega⟩)
  | exact Or.inl (Or.inr ⟨by omega, by omega⟩)
  | exact ⟨by omega, Or.inl (by omega)⟩
  | exact ⟨by omega, by omega, by omega, by omega⟩
  | exact ⟨by decide, by decide, by decide⟩)
local macro_rules | `(tactic| walk_at "bk") => `(tactic| repeat (first | exact BackE.nil | apply BackE.imm | apply BackE.own | apply BackE.hand))
local macro_rules | `(tactic| walk_at "ds1") => `(tactic| first
  | ((with_reducible refine' s_vi ?ee_ ?_); (case ee_ => rfl))
  | ((with_reducible refine' s_vs ?ee_ ?_); (case ee_ => rfl))
  | with_reducible refine s_c ?_
  | with_reducible refine s_aN ?_
  | with_reducible refine s_aC ?_
  | with_reducible refine s_op ?_
  | ((with_reducible refine' x_val2 ?ee_ ?ff_ ?_); (case ee_ => rfl); (case ff_ => rfl))
  | ((with_reducible refine' x_bl ?ee_ ?_); (case ee_ => rfl))
  | ((with_reducible refine' x_int ?ee_ ?_); (case ee_ => rfl))
  | ((with_reducible refine' x_val ?ee_ ?_); (case ee_ => rfl))
  | ((with_reducible refine' x_vals ?ee_ ?_); (case ee_ => rfl))
  | ((with_reducible refine' x_frzs ?ee_ ?ll_ ?_); (case ee_ => rfl); (case ll_ => rfl))
  | ((with_reducible refine' x_frzO ?ee_ ?_); (case ee_ => rfl))
  | ((with_reducible refine' x_frz2 ?ee_ ?ff_ ?_); (case ee_ => rfl); (case ff_ => rfl))
  | ((with_reducible refine' x_frz ?ee_ ?_); (case ee_ => rfl))
  | ((with_reducible refine' x_asg ?ee_ ?_); (case ee_ => rfl))
  | with_reducible refine o_addI ?_
  | with_reducible refine o_subI ?_
  | ((with_reducible refine' o_mulI ?cc_ ?_); (case cc_ => walk_at "al"))
  | ((with_reducible refine' o_divI ?cc_ ?_); (case cc_ => walk_at "al"))
  | ((with_reducible refine' o_modI ?cc_ ?_); (case cc_ => walk_at "al"))
  | ((with_reducible refine' o_powI ?cc_ ?_); (case cc_ => walk_at "al"))
  | with_reducible refine o_andI ?_
  | with_reducible refine o_ltI ?_
  | with_reducible refine o_leI ?_
  | with_reducible refine o_gtI ?_
  | with_reducible refine o_geI ?_
  | with_reducible refine o_eqI ?_
  | with_reducible refine o_eqS ?_
  | with_reducible refine o_eqP ?_
  | with_reducible refine o_neI ?_
  | with_reducible refine o_neS ?_
  | with_reducible refine o_isN' ?_
  | with_reducible refine o_isB' ?_
  | with_reducible refine o_notN' ?_
  | ((with_reducible refine' o_ixT ?ee_ ?ff_ ?_); (case ee_ => first | rfl | assumption); (case ff_ => first | rfl | assumption))
  | ((with_reducible refine' o_ixL ?ee_ ?ff_ ?_); (case ee_ => first | rfl | assumption); (case ff_ => first | rfl | assumption))
  | with_reducible refine o_slL ?_
  | with_reducible refine o_slT ?_
  | with_reducible refine s_dnT ?_
  | with_reducible refine s_dnK ?_
  | with_reducible refine o_neP ?_
  | with_reducible refine o_neC ?_
  | ((with_reducible refine' o_fld ?ee_ ?_); (case ee_ => rfl))
  | with_reducible refine o_lenL ?_
  | with_reducible refine o_lenT ?_
  | with_reducible refine o_lenF ?_
  | with_reducible refine o_lenD ?_
  | with_reducible refine o_int ?_
  | with_reducible refine o_abs ?_
  | with_reducible refine o_max ?_
  | with_reducible refine o_min ?_
  | with_reducible refine o_list ?_
  | ((with_reducible refine' o_inT ?ee_ ?_); (case ee_ => rfl))
  | ((with_reducible refine' o_ninT ?ee_ ?_); (case ee_ => rfl))
  | with_reducible refine o_neg ?_
  | ((with_reducible refine' o_inF ?ee_ ?_); (case ee_ => rfl))
  | ((with_reducible refine' o_ninF ?ee_ ?_); (case ee_ => rfl))
  | with_reducible refine s_tup ?_
  | with_reducible refine s_lst ?_
  | with_reducible refine s_un ?_
  | with_reducible refine s_cl ?_
  | with_reducible refine s_test ?_
  | with_reducible refine s_and ?_
  | with_reducible refine s_or ?_
  | with_reducible refine s_not ?_
  | with_reducible refine s_andV ?_
  | with_reducible refine s_orV ?_
  | with_reducible refine s_notV ?_
  | with_reducible refine s_ifV ?_
  | with_reducible refine s_chain ?_
  | with_reducible refine x_ib ?_
  | with_reducible refine s_pN ?_
  | with_reducible refine s_pS ?_
  | with_reducible refine s_sl ?_
  | with_reducible refine s_sameL ?_
  | with_reducible refine o_isNB ?_
  | with_reducible refine s_fz ?_
  | with_reducible refine o_ixH ?_
  | ((with_reducible refine' x_noa ?ee_ ?_); (case ee_ => rfl))
  | ((with_reducible refine' x_lenN ?ee_ ?ff_ ?_); (case ee_ => omega); (case ff_ => omega))
  | ((with_reducible refine' x_le1000 ?ee_ ?_); (case ee_ => rfl))
  | with_reducible refine s_call ?_
  | ((with_reducible refine' x_con ?ee_ ?ff_ ?_); (case ee_ => rfl); (case ff_ => rfl))
  | ((with_reducible refine' s_callD ?ee_ ?ff_ ?_); (case ee_ => rfl); (case ff_ => rfl))
  | ((with_reducible refine' x_back ?ll_ ?ee_ ?_); (case ll_ => rfl); (case ee_ => rfl))
  | ((with_reducible refine' x_back1 ?ee_ ?_); (case ee_ => rfl))
  | with_reducible refine s_gaN ?_
  | with_reducible refine s_gaV ?_
  | ((with_reducible refine' s_gaR ?ee_ ?_); (case ee_ => rfl))
  | with_reducible refine s_meth ?_
  | with_reducible refine s_meth0 ?_
  | with_reducible refine s_methK ?_
  | with_reducible refine s_makeK ?_
  | ((with_reducible refine' x_frzsK ?ee_ ?ll_ ?_); (case ee_ => rfl); (case ll_ => rfl))
  | with_reducible refine s_prop ?_
  | with_reducible refine s_make ?_
  | with_reducible refine s_own2 ?_
  | with_reducible refine s_eqX ?_
  | with_reducible refine s_neX ?_
  | with_reducible refine s_rev ?_
  | with_reducible refine x_nb ?_
  | ((with_reducible refine' x_rev ?ee_ ?ff_ ?_); (case ee_ => rfl); (case ff_ => rfl))
  | with_reducible refine s_lenO ?_
  | ((with_reducible refine' s_mut ?ee_ ?_); (case ee_ => rfl))
  | ((with_reducible refine' x_mut ?ee_ ?ff_ ?_); (case ee_ => rfl); (case ff_ => rfl))
  | ((with_reducible refine' s_mut0 ?ee_ ?_); (case ee_ => rfl))
  | with_reducible refine m_clr ?_
  | with_reducible refine m_rev ?_
  | with_reducible refine s_dget ?_
  | with_reducible refine s_dget1 ?_
  | with_reducible refine s_dget2 ?_
  | ((with_reducible refine' x_isT ?ee_ ?_); (case ee_ => rfl))
  | ((with_reducible refine' x_isK ?ee_ ?_); (case ee_ => rfl))
  | ((with_reducible refine' x_get2 ?ee_ ?ff_ ?gg_ ?_); (case ee_ => rfl); (case ff_ => rfl); (case gg_ => rfl))
  | with_reducible refine s_din ?_
  | with_reducible refine s_dnin ?_
  | ((with_reducible refine' s_lookT ?ee_ ?_); (case ee_ => rfl))
  | ((with_reducible refine' s_lookK ?ee_ ?_); (case ee_ => rfl))
  | with_reducible refine s_seq ?_
  | with_reducible refine s_set ?_
  | with_reducible refine s_ret ?_
  | with_reducible refine s_retN ?_
  | with_reducible refine s_if ?_
  | with_reducible refine s_next ?_
  | with_reducible refine s_drop ?_
  | with_reducible refine s_brk ?_
  | with_reducible refine s_cnt ?_
  | with_reducible refine s_asg ?_
  | with_reducible refine s_raise ?_
  | with_reducible refine s_setIx ?_
  | ((with_reducible refine' s_gN ?ee_ ?_); (case ee_ => rfl))
  | with_reducible refine s_gNl ?_
  | with_reducible refine s_gCn ?_
  | ((with_reducible refine' s_gT ?ee_ ?_); (case ee_ => rfl))
  | ((with_reducible refine' s_gL ?ee_ ?_); (case ee_ => rfl))
  | with_reducible refine s_for ?_
  | with_reducible refine s_wSeq ?_
  | ((with_reducible refine' x_items ?ee_ ?ff_ ?_); (case ee_ => rfl); (case ff_ => rfl))
  | with_reducible refine s_rng1 ?_
  | ((with_reducible refine' x_rng1 ?ee_ ?aa_ ?bb_ ?_); (case ee_ => rfl); (case aa_ => omega); (case bb_ => omega))
  | with_reducible refine s_rng2 ?_
  | ((with_reducible refine' x_rng2 ?ee_ ?aa_ ?_); (case ee_ => rfl); (case aa_ => exact ⟨by omega, by omega, by omega, by omega⟩))
  | with_reducible refine s_enum ?_
  | ((with_reducible refine' x_enum ?ee_ ?_); (case ee_ => rfl))
  | with_reducible refine s_lc ?_
  | with_reducible refine s_lcG ?_
  | ((with_reducible refine' s_lcV ?ee_ ?ff_ ?_); (case ee_ => rfl); (case ff_ => rfl))
  | ((with_reducible refine' s_forV ?ee_ ?_); (case ee_ => rfl))
  | ((with_reducible refine' x_clear ?ee_ ?_); (case ee_ => rfl))
  | with_reducible refine s_yes ?_
  | ((with_reducible refine' s_end ?ee_ ?bb_ ?_); (case ee_ => rfl); (case bb_ => walk_at "bk"))
  | ((with_reducible refine' x_pxT ?ee_ ?_); (case ee_ => assumption))
  | with_reducible refine x_got rfl ?_
  | with_reducible refine x_in0 ?_
  | with_reducible refine x_inS ?_
  | ((with_reducible refine' s_gVal ?ee_ ?_); (case ee_ => rfl))
  | ((with_reducible refine' s_gTag ?ee_ ?_); (case ee_ => rfl))
  | ((with_reducible refine' x_px ?bb_ ?_); (case bb_ => walk_at "bk"))
  | ((with_reducible refine' s_endN ?bb_ ?_); (case bb_ => walk_at "bk"))
  | with_reducible refine iteT ?_
  | with_reducible refine iteF ?_
  | with_reducible refine r_iteNf ?_
  | with_reducible refine r_iteNt ?_)
local macro_rules | `(tactic| walk_at "ds") => `(tactic| (repeat' (walk_at "ds1")))
set_option hygiene false in
local macro_rules | `(tactic| walk_at "dx") => `(tactic| (repeat' (first | walk_at "ds1" | with_reducible refine (fun (a : Addr) => ?_ : ∀ _ : Addr, _) | with_reducible refine ite_d (fun c => ?_) (fun c => ?_) | with_reducible refine ite_nd (fun c => ?_) (fun c => ?_) | with_reducible refine ite_nb (fun c => ?_) (fun c => ?_) | with_reducible refine ite_b (fun c => ?_) (fun c => ?_))))
set_option hygiene false in
local macro_rules | `(tactic| walk_at "dy") => `(tactic| (repeat' (first | walk_at "ds1" | with_reducible refine (fun (a : Addr) => ?_ : ∀ _ : Addr, _))))
/-! ### the board's small defs, over data -/
def conIns : Con := fun es P _ => ∃ (w h x y : Int), es = [.int w, .int h, .int x, .int y] ∧ ∀ b : Bool, (b = true ↔ Ins w h x y) → P (.imm (.bl b)) es
def conOther : Con := fun es P _ => ∃ k : Str, es = [.imm (.str k)] ∧ P (.imm (.str (okK k))) es
abbrev ptOf (z : Int × Int) : D := .tup [.int z.1, .int z.2]
def conMoved : Con := fun es P _ => ∃ (way : Str) (w h x y : Int), es = [.imm (.str way), .int w, .int h, .imm (.tup [.int x, .int y])] ∧ P (.imm (ptOf (mvd way w h x y))) es
def conWide (A : Ad) : Con := fun es P _ => ∃ (w h : Int) (ms : List Mir), es = [.imm (brdD A.C_Board w h ms)] ∧ P (.int w) es
def conHigh (A : Ad) : Con := fun es P _ => ∃ (w h : Int) (ms : List Mir), es = [.imm (brdD A.C_Board w h ms)] ∧ P (.int h) es
def conLen (A : Ad) : Con := fun es P _ => ∃ (w h : Int) (ms : List Mir), es = [.imm (brdD A.C_Board w h ms)] ∧ P (.int ms.length) es
def kindD (ms : List Mir) (x y : Int) : D := (lookD (kvD ms) (ptK (x, y))).getD .non
def conAt (A : Ad) : Con := fun es P PX => ∃ (w h : Int) (ms : List Mir) (x y : Int), es = [.imm (brdD A.C_Board w h ms), .int x, .int y] ∧ (¬ Ins w h x y → PX A.C_InvalidPoint (plD x y) es) ∧ (Ins w h x y → P (.imm (kindD ms x y)) es)
def conTurned (A : Ad) : Con := fun es P PX => ∃ (w h : Int) (ms : List Mir) (way : Str), es = [.imm (brdD A.C_Board w h ms), .imm (.str way)] ∧ GoodMs w h ms ∧ 1 ≤ w ∧ 1 ≤ h ∧ ms.length ≤ 500 ∧
  (wayOk way = false → PX A.C_InvalidTurn (.str way) es) ∧ (wayOk way = true → ∀ ns : List Mir, ns.Perm (ms.map (mvM way w h)) → P (.imm (brdD A.C_Board (if swp way then h else w) (if swp way then w else h) ns)) es)
theorem mirsD_suc {f : Mir → Mir} {ns : List Mir} {i : Nat} {z : Mir} (hz : ns[i]? = some z) : mirsD ((ns.take (i + 1)).map f) = .lst (((ns.take i).map f).map mirD ++ [mirD (f z)]) := by
  unfold mirsD
  rw [take_suc hz, List.map_append, List.map_append]
  rfl
section
variable {P : Program} {w : World} {K : PySem.W.Frag} {mg : Str → Option Value} {base : Heap} {A : Ad}
theorem okd_is_inside (T : Txt K mg A) : FnOk P w K mg base (L2.CX P w) (0 + 1) A.f_is_inside A.d_is_inside P_is_inside (spD K conIns) := by
  refine okD_fn T.F_is_inside sc_is_inside (fun es P PX h => ?_) (fun cdv A' outer s H I E es R PX hr fo hc => ?_)
  · obtain ⟨w', h', x, y, rfl, _⟩ := h
    rfl
  obtain ⟨w', h', x, y, rfl, hP⟩ := hc
  have hu := hu_of hr
  refine ⟨_, (dss_one (ds_ret (de_and (de_chain dor_lt dor_lt de_int (dv 2) (de_op dor_mul de_int (dv 0))) (de_and (de_chain dor_lt dor_lt de_int (dv 3) (de_op dor_mul de_int (dv 1))) (de_one (de_cmp (dor_eq hr.units) (de_op dor_mod (de_op dor_add (dv 2) (dv 3)) de_int) de_int (nomark _))))))), ?_⟩
  walk_at "dy"
  walk_at "dx"
  all_goals refine hP _ ?_
  all_goals unfold Ins
  all_goals simp
  all_goals omega
end

end
/-! ### sorted mirrors; a display of two texts -/
def cSortM : DON := fun ds P => ∃ ms : List Mir, ds = [mirsD ms] ∧ ∀ (ns : List Mir) (l : Addr), ns.Perm ms → ns.Pairwise Mle → P (.own l (mirsD ns))
section
variable {X : Cx} {F : Fr} {pos : Pos}
theorem dcr_sortM : DCR X (.builtin "sorted") cSortM := ⟨_, c_sortM, fun I H xs ds P Q s v h k => by
  obtain ⟨ms, rfl, hP⟩ := h
  obtain ⟨x, rfl, w⟩ := v.one
  obtain ⟨a, ys, rfl, ha, r⟩ := w.lst s
  obtain ⟨as, rfl, tt⟩ := mirs_out s r
  refine ⟨a, ms, rfl, ⟨as, ha, tt⟩, fun ns p H' p1 p2 hp0 hl sm => ?_⟩
  have s0 : Sub I H' := fun b o q => sm b o (s b o q)
  obtain ⟨I', xs, le, s', nw, hx, rr⟩ := mirs_in (K := X.K) s0 hl
  have g := grow_tups (I := I) sm s0 nw le s'
  have il : I' p = none := by
    cases z : I' p with
    | none => rfl
    | some o =>
      rcases nw p o z with q | ⟨ys, q⟩
      · rw [s.none hp0] at q; cases q
      · rw [hx] at q; cases q
  exact k (.ref p) (.own p (mirsD ns)) I' H' (hP ns p p1 p2) g ⟨rfl, il, xs, hx, rr⟩ fun b hb => by simp at hb; subst hb; exact hp0⟩
theorem de_disp2 {k1 k2 v1 v2 : Str} {j1 j2 j3 j4 : Nat} {p1 p2 p3 p4 : Pos} (hm : mergeK [] [((Sum.inr k1 : Key), V.str v1), (Sum.inr k2, V.str v2)] = [((Sum.inr k1 : Key), V.str v1), (Sum.inr k2, V.str v2)] := by decide +kernel) :
    DE X F (.Dict [some (.Constant (.str k1) j1 p1), some (.Constant (.str k2) j2 p2)] [.Constant (.str v1) j3 p3, .Constant (.str v2) j4 p4] pos) (eC (.dik [(Sum.inr k1, .str v1), (Sum.inr k2, .str v2)])) :=
  ⟨_, pe_disp (pps_cons pe_str pe_str (pps_cons pe_str pe_str pps_nil)) (by rfl) (by rfl) (by intro z; cases z) (Nat.le_of_ble_eq_true rfl), fun σ I H e ps P Q s h k p hp => by
    refine ⟨upd_same, [((Sum.inr k1 : Key), V.str v1), (Sum.inr k2, V.str v2)], rfl, Nat.le_of_ble_eq_true rfl, ?_⟩
    rw [upd_upd, hm]
    have g := Grow.allocI (o := .dK [((Sum.inr k1 : Key), V.str v1), (Sum.inr k2, V.str v2)]) s.sub hp
    exact k _ _ e _ _ h (s.pushG (t := .imm (.dik [(Sum.inr k1, .str v1), (Sum.inr k2, .str v2)])) g (.dik upd_same rfl (.cons (.str _) (.cons (.str _) .nil))) fun a ha => by simp at ha)⟩
end
theorem swap_look {k : Str} (h : KindOk k) : lookD [((Sum.inr "-" : Key), D.str "|"), (Sum.inr "|", D.str "-")] (Sum.inr k) = some (.str (okK k)) := by
  rcases h with h | h
  · rw [h]; rfl
  · rw [h]; rfl
/-! ### mirrors as data -/
theorem kvs_kind {ms : List Mir} {k : List Key} {v : V} (h : valV (kvsOf ms) k = some v) : ∃ m ∈ ms, v = .str m.2.2 := by
  unfold kvsOf at h
  induction ms with
  | nil => simp [valV] at h
  | cons m r ih =>
    rw [List.map_cons] at h
    by_cases e : ptK (mK m) = k
    · rw [valV_pos e] at h
      exact ⟨m, by simp, (Option.some.inj h).symm⟩
    · rw [valV_neg e] at h
      obtain ⟨m', hm, e⟩ := ih h
      exact ⟨m', by simp [hm], e⟩
abbrev mD (m : Mir) : PyData := .tuple [.int m.1, .int m.2.1, .str m.2.2]
theorem kind_str {k : Str} (h : KindOk k) : PyData.strOk k = true := by
  rcases h with h | h
  · rw [h]; decide +kernel
  · rw [h]; decide +kernel
theorem mD_ok {m : Mir} (h : KindOk m.2.2) : okD 1 (mD m) = true := by
  have e := kind_str h
  simp [okD, okDs, e]
theorem mDs_ok {ms : List Mir} (hk : ∀ m ∈ ms, KindOk m.2.2) (hz : ms.length ≤ 1000000) : okD 2 (.list (ms.map mD)) = true := by
  rw [okD, Bool.and_eq_true]
  refine ⟨by simpa using hz, ?_⟩
  exact okDs_all fun d hd => by
    obtain ⟨z, hz, rfl⟩ := List.mem_map.mp hd
    exact mD_ok (hk z hz)
mutual
theorem okD_up : ∀ (n : Nat) (d : PyData), okD n d = true → okD (n + 1) d = true
  | _, .none, _ => rfl
  | _, .bool _, _ => rfl
  | _, .int _, _ => rfl
  | _, .str x, h => by rw [okD] at h ⊢; exact h
  | 0, .list _, h => by simp [okD] at h
  | 0, .tuple _, h => by simp [okD] at h
  | n + 1, .list xs, h => by
    rw [okD, Bool.and_eq_true] at h ⊢
    exact ⟨h.1, okDs_up n xs h.2⟩
  | n + 1, .tuple xs, h => by
    rw [okD, Bool.and_eq_true] at h ⊢
    exact ⟨h.1, okDs_up n xs h.2⟩
  | _, .dict _, h => by simp [okD] at h
theorem okDs_up : ∀ (n : Nat) (ds : List PyData), okDs n ds = true → okDs (n + 1) ds = true
  | _, [], _ => by simp [okDs]
  | n, x :: xs, h => by
    rw [okDs, Bool.and_eq_true] at h ⊢
    exact ⟨okD_up n x h.1, okDs_up n xs h.2⟩
end
theorem dp_m {K : PySem.W.Frag} {H : Hp} {a : Addr} {z : Mir} (h : H a = some (.tup (mV z))) : Dp K H (.ref a) (mD z) := .tup (SqT.of h) (.cons (.int _) (.cons (.int _) (.cons (.str _) .nil)))
theorem dp_ms {K : PySem.W.Frag} {H : Hp} : ∀ {as : List Addr} {zs : List Mir}, TupsAt H as (zs.map mV) → DpAll K H (as.map V.ref) (zs.map mD)
  | [], [], _ => .nil
  | [], _ :: _, h => by cases h
  | _ :: _, [], h => by cases h
  | a :: as, z :: zs, h => by
    cases h with
    | cons h1 h2 => exact .cons (dp_m h1) (dp_ms h2)
theorem MsAt.same {H H' : Hp} {l : Addr} {ms : List Mir} (h : MsAt H l ms) (s : Same H H') : MsAt H' l ms := by
  obtain ⟨as, e, t⟩ := h
  exact ⟨as, s _ _ e, t.keep fun b xs e => s _ _ e⟩
theorem MsAt.dp {K : PySem.W.Frag} {H : Hp} {l : Addr} {ms : List Mir} (h : MsAt H l ms) : Dp K H (.ref l) (.list (ms.map mD)) := by
  obtain ⟨as, e, t⟩ := h
  exact .lst (SqL.of e) (dp_ms t)
/-- what a point of a board has, as data -/
theorem kind_data {K : PySem.W.Frag} {w h : Int} {ms : List Mir} (g : GoodMs w h ms) (k : List Key) : ∃ d, okD 3 d = true ∧ ∀ H : Hp, Dp K H ((valV (kvsOf ms) k).getD .non) d := by
  cases e : valV (kvsOf ms) k with
  | none => exact ⟨.none, rfl, fun _ => .non⟩
  | some v =>
    obtain ⟨m, hm, rfl⟩ := kvs_kind e
    exact ⟨.str m.2.2, by rw [okD]; exact kind_str (g.kind m hm), fun _ => .str _⟩
/-! ### the law's comparison of a list made of things at hand -/
def eSameL (n : Nat) (g1 : EvA) (f2 : EvF) : EvF := fun e P => g1 e fun rs e1 => rs.length ≤ 1000 ∧ f2 e1 fun r e2 => ∃ ds, vals e2 rs = some ds ∧ val e2 r = some (.lst ds) ∧ okD n (.list (toPys ds)) = true ∧ P (.im (.bl true)) e2
theorem okDs_mem {n : Nat} : ∀ {ds : List D}, okDs n (toPys ds) = true → ∀ d ∈ ds, okD n (toPy d) = true
  | [], _, d, h => by simp at h
  | c :: ds, k, d, h => by
    rw [toPys, okDs, Bool.and_eq_true] at k
    rcases List.mem_cons.mp h with rfl | h
    · exact k.1
    · exact okDs_mem k.2 d h
theorem okD_le {n : Nat} {d : PyData} (h : okD n d = true) : ∀ k, okD (n + k) d = true
  | 0 => h
  | k + 1 => okD_up _ _ (okD_le h k)
theorem dpAll_of {K : PySem.W.Frag} {I H : Hp} (s : Sub I H) : ∀ {xs : List V} {ds : List D}, VwRs K I H xs ds → (∀ d ∈ ds, okP d) → DpAll K H xs (toPys ds)
  | _, _, .nil, _ => .nil
  | _, _, .cons v r, h => .cons (Rep.dpH s v (h _ (by simp))) (dpAll_of s r fun d m => h d (by simp [m]))
section
variable {X : Cx} {F : Fr} {k n : Nat} {f : Addr} {fd : FuncData} {pn : List Str} {x : Str} {p pos p1 : Pos} {es : List Expr} {b : Expr} {g1 : EvA} {f2 : EvF}
theorem de_sameL (G : FnOk X.prog X.w X.K X.mg X.base (L2.CX X.prog X.w) k f fd pn (spSame X.K (n + 1))) (hn : n ≤ 40) (hr : Room k X.A) (hg : Gl X x) (hm : X.mg x = some (.ref f)) (hk : PySem.W.keepIn X.K (.ref f) = true) (hb : Binds X.K fd pn []) (tk : Takes X F.W) (h1 : DA X F es g1) (h2 : DE X F b f2)
    (hK : F.K = X.K := by first | rfl | assumption) (hdb : (x == ("__debug__" : Str)) = false := by decide) (he : starEach [.List es p1, b] X.env = (false, eval (.List es p1) X.env) :: starEach [b] X.env := by rfl) (he2 : starEach [b] X.env = (false, eval b X.env) :: starEach [] X.env := by rfl)
    (hpl : (backTo pos (starEach [b] X.env)).any (·.1) = false := by rfl) :
    DE X F (.Call (.Name x p) [.List es p1, b] [] pos) (eSameL n g1 f2) := by
  obtain ⟨t1, q1, d1⟩ := h1
  obtain ⟨t2, q2, d2⟩ := h2
  refine ⟨_, pe_callS G hr hg hm hk hb (fun σ => passAt tk σ) (pa_cons (pe_lst q1) (pa_cons q2 pa_nil he2) he) hdb he hpl, fun σ I H e ps P Q s h k => ?_⟩
  refine d1 σ I H e ps _ _ s h fun xs rs e1 I1 H1 h1 hl s1 => ?_
  obtain ⟨hz, h1⟩ := h1
  refine ⟨Nat.le_trans (by rw [hl]; exact hz) (by decide), fun q hq => ?_⟩
  have s2 := s1.pushG (t := .raw q xs) (Grow.alloc (o := .lst xs) s1.sub hq) ⟨rfl, s1.sub.none hq, upd_same⟩ fun a ha => by simp at ha; subst ha; exact hq
  refine d2 σ I1 _ e1 _ _ _ s2 h1 fun y r e2 I3 H3 h3 s3 => ?_
  obtain ⟨ds, v1, v2, ok, hP⟩ := h3
  have w1 : VwRs F.K I3 H3 xs ds := ST.vws s3.weak.weak hl v1
  have w2 : VwR F.K I3 H3 y (.lst ds) := s3.vw (qs := []) v2
  have s3' := s3
  rw [List.append_assoc] at s3'
  have raw : EntR F.K I3 H3 (.ref q) (.raw q xs) := ST.temp s3'
  have ok40 : okP (.lst ds) := by
    have z := okD_le ok (40 - n)
    rw [Nat.add_sub_cancel' hn] at z
    exact z
  have okd : ∀ d ∈ ds, okP d := fun d m => by
    have z := okDs_mem (n := 39) (ds := ds) (by
      have z : okD 40 (.list (toPys ds)) = true := ok40
      rw [okD, Bool.and_eq_true] at z
      exact z.2) d m
    exact okD_up _ _ z
  refine ⟨.ref q, y, .list (toPys ds), rfl, ?_, ?_, ok, fun H' sm => ?_⟩
  · rw [← hK]
    exact .lst (SqL.of raw.2.2) (dpAll_of s3.sub w1 okd)
  · rw [← hK]
    exact Rep.dpH s3.sub w2 ok40
  · exact k (.bl true) _ e2 I3 H' hP ((s3.weak.weak.weak.grow ⟨Le.refl, fun b o q => sm b o q, fun b o q => sm b o (s3.sub b o q), fun b o q => .inl q⟩).pushI (.bl true))
end
section
variable {e : En} {P : Rv → En → Prop} {g1 : EvA} {f2 : EvF} {n : Nat}
theorem s_sameL (k : g1 e fun rs e1 => rs.length ≤ 1000 ∧ f2 e1 fun r e2 => ∃ ds, vals e2 rs = some ds ∧ val e2 r = some (.lst ds) ∧ okD n (.list (toPys ds)) = true ∧ P (.im (.bl true)) e2) : eSameL n g1 f2 e P := k
theorem x_lenN {z : Int} {R : Int → Prop} (h0 : 0 ≤ z) (h1 : z < 2 ^ 63) (k : R z) : ∃ n : Int, Rv.ent (.imm (.int z)) = .ent (.imm (.int n)) ∧ 0 ≤ n ∧ n < 2 ^ 63 ∧ R n := ⟨z, rfl, h0, h1, k⟩
theorem x_noa {fs : List (Str × D)} {m : Str} {R : Prop} (h : fs.lookup m = none) (k : R) : fs.lookup m = none ∧ R := ⟨h, k⟩
theorem o_ixH {c : D} {xs : List D} {P : Ent → Prop} (k : P (.imm c)) : oIx (.lst (c :: xs)) (.int 0) P := by
  refine ⟨0, c, ?_, rfl, k⟩
  unfold ixN
  simp
  try omega
def oIsNB : DO2
  | .bl a, .bl b, P => P (.imm (.bl (!decide (a = b))))
  | _, _, _ => False
theorem o_isNB {a b : Bool} {P : Ent → Prop} (k : P (.imm (.bl (!decide (a = b))))) : oIsNB (.bl a) (.bl b) P := k
theorem dor_isNotB {X : Cx} : DOR X (compareOp .IsNot) oIsNB := ⟨_, op_notBl, fun I H x y c d P Q s v1 v2 h k => by
  cases c with
  | bl a =>
    cases d with
    | bl b =>
      rw [v1.bl, v2.bl]
      exact ⟨a, b, rfl, rfl, k.imm s h (.bl _)⟩
    | _ => exact h.elim
  | _ => exact h.elim⟩
theorem x_le1000 {α : Type} {xs : List α} {R : Prop} (h : Nat.ble xs.length 1000 = true) (k : R) : xs.length ≤ 1000 ∧ R := ⟨Nat.le_of_ble_eq_true h, k⟩
end
theorem toPys_mirs : ∀ ms : List Mir, toPys (ms.map mirD) = ms.map mD
  | [] => rfl
  | m :: ms => by rw [List.map_cons, List.map_cons, toPys, toPys_mirs ms]; rfl
section
variable {P : Program} {w : World} {K : PySem.W.Frag} {mg : Str → Option Value} {base : Heap} {A : Ad}
end
/-! ### the law's end; a name whose list is not changed any more -/
theorem FnOk.calm {P : Program} {w : World} {K : PySem.W.Frag} {mg : Str → Option Value} {base : Heap} {k : Nat} {f : Addr} {fd : FuncData} {ps : List Str} {sp sp' : Sp} (F : FnOk P w K mg base (L2.CX P w) k f fd ps sp)
    (h : ∀ vs H Q E, sp' vs H Q E → sp vs H Q fun _ _ _ => False) : FnOk P w K mg base CX0 k f fd ps sp' :=
  ⟨fun vs H Q E q => F.len vs H Q _ (h _ _ _ _ q), fun A outer s H args us vs Q E hr he hb hv hs => codeAny_mono (F.run A outer s H args us vs Q _ hr he hb hv (h _ _ _ _ hs)) fun r s' q => by
    cases r with
    | ok fl => cases fl <;> exact q
    | error e =>
      obtain ⟨_, _, _, _, _, _, _, _, _, _, _, _, z⟩ := q
      exact z.elim⟩
def spLaw (K : PySem.W.Frag) : Sp := fun vs H Q _ => ∃ (a : Addr) (ns : List Int), vs = [.ref a] ∧ SqL K H a (ns.map V.int) ∧ ns.length ≤ 63 ∧ ∀ H', Q (.bl true) H'
def conLaw : Con := fun es P _ => ∃ ns : List Int, es = [.imm (.fls (ns.map D.int))] ∧ ns.length ≤ 63 ∧ P (.imm (.bl true)) es
theorem law_of {K : PySem.W.Frag} (vs : List V) (H : Hp) (Q : VK) (E : XK) (h : spLaw K vs H Q E) : spD K conLaw vs H Q fun _ _ _ => False := by
  obtain ⟨a, ns, rfl, hs, hl, kk⟩ := h
  have s0 : Sub (fun b => if b = a then H b else none) H := fun b o q => by
    dsimp only at q
    split at q
    · exact q
    · cases q
  refine ⟨fun b => if b = a then H b else none, [.imm (.fls (ns.map D.int))], fun t es => t = .imm (.bl true), fun _ _ _ => False, s0, ?_, ⟨ns, rfl, hl, rfl⟩, fun r es' x I' H' hp sub env st => ?_, fun C d es' x dd I' H' hp _ _ _ _ _ => hp⟩
  · refine imm_env (ds := [.fls (ns.map D.int)]) (.cons (.fls ?_ (ints_in ns)) .nil)
    rcases hs with hs | hs
    · refine .inl ?_
      rcases hs with hs | ⟨o, hs⟩
      · exact .inl (by dsimp only; rw [if_pos rfl]; exact hs)
      · exact .inr ⟨o, by dsimp only; rw [if_pos rfl]; exact hs⟩
    · exact .inr hs
  · subst hp
    have e : x = .bl true := by
      have l := st.imm
      obtain ⟨y, y1, y2⟩ := env.at_ es'.length (.imm (.bl true)) (by simp)
      have hl2 : es'.length = 1 := by
        have := env.len
        simpa using this
      rw [hl2] at y1
      simp at y1
      cases y2
      exact y1
    rw [e]
    exact kk H'
/-- statement s, and what stands in slot i is not changed any more -/
def sFz (i : Nat) (s : SvF) : SvF := fun e d => s e { d with nx := fun e1 => ∃ c e2, frz e1 (.slot i) = some (c, e2) ∧ d.nx e2 }
theorem s_fz {i : Nat} {s : SvF} {e : En} {d : Ed} (k : s e { d with nx := fun e1 => ∃ c e2, frz e1 (.slot i) = some (c, e2) ∧ d.nx e2 }) : sFz i s e d := k
theorem ds_fz {X : Cx} {F : Fr} {st : Stmt} {s : SvF} (i : Nat) (h : DS X F st s) : DS X F st (sFz i s) := by
  obtain ⟨t, p, d⟩ := h
  refine ⟨t, p, fun σ I H e ps dd D hp s1 h k => d σ I H e ps _ D hp s1 h ⟨fun σ' I' H' e' h' s' => ?_, k.rt, k.bk, k.ct⟩⟩
  obtain ⟨c, e2, hf, h2⟩ := h'
  obtain ⟨t0, ht⟩ : ∃ t0, e'[i]? = some (some t0) := by
    unfold frz at hf
    cases q : e'[i]? with
    | none => simp [q] at hf
    | some o =>
      cases o with
      | none => simp [q] at hf
      | some t0 => exact ⟨t0, rfl⟩
  obtain ⟨x, hx, _⟩ := s'.slot ht
  obtain ⟨I2, _, s2⟩ := (s'.pushS hx ht).frz (qs := []) hf
  exact k.nx σ' I2 H' e2 h2 s2.weak
theorem rng_get {lo : Int} {n i : Nat} {c : D} (h : (rngD lo 1 n)[i]? = some c) : i < n ∧ c = .int (lo + i) := by
  have z := (List.getElem?_eq_some_iff.mp h).1
  rw [rngD_len] at z
  rw [rngD_at z, Int.mul_one] at h
  exact ⟨z, (Option.some.inj h).symm⟩
/-! ### try: body, except C as n: one line -/
section
variable {K : PySem.W.Frag} {F : Fr} {σ σ' : L2.St} {I H I' H' : Hp} {e e' : En} {ps qs : Tm} {W : WX} {PX : Addr → D → En → Prop}
/-- the frame of a try's body: from here on -/
abbrev frTry (K : PySem.W.Frag) (e : En) (ps : Tm) (I H : Hp) (W : WX) (PX : Addr → D → En → Prop) : Fr := ⟨K, e ++ tn ps, I, H, W, PX⟩
theorem ST.here (s : ST F σ I H e ps) : ST (frTry F.K e ps I H W PX) σ I H e ps := ⟨s.sub, s.len, s.env, s.ali, Step.refl⟩
theorem ST.rebase (s0 : ST F σ I H e ps) (s : ST (frTry F.K e ps I H W PX) σ' I' H' e' qs) : ST F σ' I' H' e' qs := ⟨s.sub, s.len, s.env, s.ali, s0.base.trans s.base⟩
theorem ST.imms (s : ST F σ I H e []) : ∀ {ps : Tm}, (∀ p ∈ ps, ∃ d, p.2 = Rv.im d ∧ Rep F.K I p.1 d) → ST F σ I H e ps := by
  have go : ∀ {ps qs : Tm}, ST F σ I H e qs → (∀ p ∈ ps, ∃ d, p.2 = Rv.im d ∧ Rep F.K I p.1 d) → ST F σ I H e (qs ++ ps) := by
    intro ps
    induction ps with
    | nil => intro qs s _; simpa using s
    | cons p ps ih =>
      intro qs s h
      obtain ⟨d, e1, r⟩ := h p (by simp)
      have s2 := s.pushI r
      have z := ih s2 fun q hq => h q (by simp [hq])
      obtain ⟨x, rv⟩ := p
      dsimp only at e1
      subst e1
      rw [List.append_assoc] at z
      exact z
  intro ps h
  exact go (qs := []) s h
theorem ST.imreps (s : ST F σ I H e ps) (hp : Imms ps) : ∀ p ∈ ps, ∃ d, p.2 = Rv.im d ∧ Rep F.K I p.1 d := fun p m => by
  obtain ⟨d, hd⟩ := hp p m
  obtain ⟨l, r, rfl⟩ := List.append_of_mem m
  obtain ⟨x, rv⟩ := p
  dsimp only at hd
  subst hd
  exact ⟨d, rfl, ST.temp (t := .imm d) s⟩
/-- a slot of which nothing is told may hold anything -/
theorem ST.junk {i : Nat} {o : Option V} (s : ST F σ I H e ps) (hp : Imms ps) (h : e[i]? = some none) : ST F (σ.set i o) I H e ps where
  sub := s.sub
  len := by rw [List.length_set]; exact s.len
  env := by
    have hi := (List.getElem?_eq_some_iff.mp h).1
    refine ⟨by have := s.env.len; simp only [List.length_append, List.length_set] at this ⊢; exact this, fun j t q => ?_, s.env.sep⟩
    obtain ⟨x, e1, e2⟩ := s.env.at_ j t q
    refine ⟨x, ?_, e2⟩
    have hij : j ≠ i := fun z => by
      subst z
      rw [List.getElem?_append_left hi, h] at q
      cases q
    by_cases hl : j < σ.length
    · rw [List.getElem?_append_left hl] at e1
      rw [List.getElem?_append_left (by rw [List.length_set]; exact hl), List.getElem?_set_ne (Ne.symm hij)]
      exact e1
    · rw [List.getElem?_append_right (by omega)] at e1
      rw [List.getElem?_append_right (by rw [List.length_set]; omega), List.length_set]
      exact e1
  ali := fun p m j q => by
    obtain ⟨d, hd⟩ := hp p m
    rw [hd] at q
    cases q
  base := s.base
end
/-- what the clause's suite does with the value -/
structure SuD (X : Cx) (F : Fr) (C : Addr) (i : Nat) (suite : List Stmt) (g : D → SvF) : Prop where
  ex : ∃ ts : Addr → Value → Option Addr → TS, (∀ (a : Addr) (oe : Obj) (cls : Value) (d : Option Addr) (pn : List (Addr × Obj)), Zc cls d oe → (∃ vs, oe.data = .fields vs) → PSs (X.suite a ((a, oe) :: pn)) suite (ts a cls d)) ∧
    ∀ (σ : L2.St) (I H : Hp) (e : En) (ps : Tm) (dd a : Addr) (x : V) (z : D) (d : Ed) (D : Ends), Imms ps → ST F σ I H e ps → Rep F.K I x z → H dd = some (.xd [(("value" : Str), x)]) → g z e d → EdR F ps d D →
      ts a (.ref C) (some dd) { nx := fun σ' H' => D.nx (σ'.set i none) H', rt := D.rt, bk := fun σ' H' => D.bk (σ'.set i none) H', ct := fun σ' H' => D.ct (σ'.set i none) H' } (σ.set i (some (.ref a))) H
def sTry (C : Addr) (f : Fr → SvF) (g : D → SvF) : SvF := fun e d => ∀ F' : Fr, F'.PX = (fun C' z e' => C' = C ∧ g z e' d) → f F' e d
theorem ds_try {X : Cx} {F : Fr} {x n : Str} {C : Addr} {i : Nat} {body suite : List Stmt} {b₀ : Stmt} {np pos pos' : Pos} {f : Fr → SvF} {g : D → SvF}
    (hs : X.stack = X.env :: X.outer) (hf : X.env.frame = some X.env.locals) (hN : X.N.Nodup) (hi : X.N[i]? = some n) (hln : X.env.kindOf n = some .local) (hc : Names X x (.ref C)) (te : PySem.W.exmOne X.K (.ref C) (.ref C) = some true)
    (hb : ∀ (pn : List (Addr × Obj)) (xe : Value → Shared → Prop) (F' : Fr), F'.K = X.K → Takes (X.tr pn xe) F'.W → FrOk F' → DSs (X.tr pn xe) F' body (f F'))
    (hg : SuD X F C i (b₀ :: suite) g) (hK : F.K = X.K := by first | rfl | assumption) :
    DS X F (.Try body [.ExceptHandler (some (.Name x np)) (some n) (b₀ :: suite) pos'] [] [] pos) (sTry C f g) := by
  obtain ⟨ts, hsu, hd⟩ := hg
  let tb : WX → TS := fun W D σ H => ∃ (I : Hp) (e : En) (ps : Tm) (d : Ed) (F' : Fr), F'.K = X.K ∧ F'.W = W ∧ FrOk F' ∧ Imms ps ∧ ST F' σ I H e ps ∧ f F' e d ∧ EdR F' ps d D
  refine ⟨_, ps_try_as (tb := tb) (Wout := fun _ _ _ _ => False) hs hf hN hi hln hc takes0 (fun W pn xe tk _ => ⟨fun pins s σ H D Iv h => ?_⟩) hsu, fun σ I H e ps d D hp s h k => ?_⟩
  · obtain ⟨I, e, ps, d, F', hk, rfl, fo, im, st, hf', ed⟩ := h
    obtain ⟨t, p, dts⟩ := hb pn xe F' hk tk fo
    exact p.run pins s σ H D Iv (dts σ I H e ps d D im st hf' ed)
  · refine ⟨I, e, ps, d, frTry F.K e ps I H (wAs X.K (.ref C) i ts (fun _ _ _ _ => False) D) (fun C' z e' => C' = C ∧ g z e' d), hK, rfl, ?_, hp, s.here, h _ rfl, ?_⟩
    · rintro σ' I' H' e' qs C' z x' dd s' ⟨rfl, hz⟩ rx hx
      refine ⟨true, te, fun _ a ha => ?_, fun z => nomatch z⟩
      have s1 : ST F σ' I' H' e' [] := ST.weak (ps := []) (qs := qs) (s.rebase s')
      have s2 : ST F σ' I' H' e' ps := s1.imms fun p m => by
        obtain ⟨d', e1, r⟩ := s.imreps hp p m
        exact ⟨d', e1, r.mono s'.base.imm⟩
      exact hd σ' I' H' e' ps dd a x' z d D hp s2 rx hx hz k
    · exact ⟨fun σ' I' H' e' h' s' => k.nx σ' I' H' e' h' (s.rebase s'), fun x r σ' I' H' e' h' s' => k.rt x r σ' I' H' e' h' (s.rebase s'), fun σ' I' H' e' h' s' => k.bk σ' I' H' e' h' (s.rebase s'), fun σ' I' H' e' h' s' => k.ct σ' I' H' e' h' (s.rebase s')⟩
/-- x = e.value -/
def gVal (i j : Nat) : D → SvF := fun z e d => e[i]? = some none ∧ ∃ e2, asg e j (.im z) = some e2 ∧ d.nx e2
/-- x = ("C", e.value) -/
def gTag (i j : Nat) (c : Str) : D → SvF := fun z e d => e[i]? = some none ∧ ∃ e2, asg e j (.im (.tup [.str c, z])) = some e2 ∧ d.nx e2
theorem asg_im {e e2 : En} {j : Nat} {z : D} (h : asg e j (.im z) = some e2) : e2 = e.set j (some (.imm z)) := by
  unfold asg at h
  split at h
  · cases h
  · cases h; rfl
section
variable {X : Cx} {F : Fr} {C : Addr} {i j : Nat} {n y : Str} {p1 p2 p3 p4 p5 p6 : Pos} {k6 k7 : Nat}
theorem su_val (xf : XfC X.K C) (no : PySem.W.findIn X.K (.ref C) "value" = some none) (hNd : X.N.Nodup) (hi : X.N[i]? = some n) (hj : X.N[j]? = some y) (hvi : Vis X.env.scope n) (hlj : Loc X.env.scope y) (hij : i ≠ j)
    (hb : attributeBase (.Name n p1) "value" X.env (eval (.Name n p1) X.env) = eval (.Name n p1) X.env := by rfl) (hs : swapsWith (.Attribute (.Name n p1) "value" p3) (some (.Name y p2)) p4.line X.env = pure false := by rfl)
    (hf : X.fn y = true ∨ X.env.scope.names.lookup y = some .local := by first | exact .inl rfl | exact .inr rfl) (hd : (n == ("__debug__" : Str)) = false := by decide) (hcd : (n == ("__classdict__" : Str)) = false := by decide) :
    SuD X F C i [.Assign [.Name y p2] (.Attribute (.Name n p1) "value" p3) p4] (gVal i j) := by
  refine ⟨fun a cls d => tAsg (tXf a cls d C "value" (tVar i)) (gName j), fun a oe cls d pn hz hfl => pss_one (ps_set (X := X.suite a ((a, oe) :: pn)) (i := j) hNd hj hlj (pe_xf xf no hz hfl (pe_var hi hvi hd hcd) hb) hs hf), fun σ I H e ps dd a x z d D hp s rx hx hg k => ?_⟩
  obtain ⟨hn, e2, ha, hd2⟩ := hg
  have hil := (List.getElem?_eq_some_iff.mp hn).1
  rw [s.len] at hil
  have e2e := asg_im ha
  have hn2 : e2[i]? = some none := by rw [e2e, List.getElem?_set_ne (Ne.symm hij)]; exact hn
  refine ⟨.ref a, List.getElem?_set_self hil, rfl, rfl, dd, _, x, rfl, hx, rfl, ?_⟩
  have s1 := s.junk (o := some (.ref a)) hp hn
  obtain ⟨I2, s2⟩ := (s1.pushI rx).asg (hp.no _) ha
  exact k.nx _ I2 H e2 hd2 (s2.junk hp hn2)
theorem su_tag {c : Str} (xf : XfC X.K C) (no : PySem.W.findIn X.K (.ref C) "value" = some none) (hNd : X.N.Nodup) (hi : X.N[i]? = some n) (hj : X.N[j]? = some y) (hvi : Vis X.env.scope n) (hlj : Loc X.env.scope y) (hij : i ≠ j)
    (hb : attributeBase (.Name n p1) "value" X.env (eval (.Name n p1) X.env) = eval (.Name n p1) X.env := by rfl) (hs : swapsWith (.Tuple [.Constant (.str c) k6 p6, .Attribute (.Name n p1) "value" p3] k7 p5) (some (.Name y p2)) p4.line X.env = pure false := by rfl)
    (hf : X.fn y = true ∨ X.env.scope.names.lookup y = some .local := by first | exact .inl rfl | exact .inr rfl) (hd : (n == ("__debug__" : Str)) = false := by decide) (hcd : (n == ("__classdict__" : Str)) = false := by decide) :
    SuD X F C i [.Assign [.Name y p2] (.Tuple [.Constant (.str c) k6 p6, .Attribute (.Name n p1) "value" p3] k7 p5) p4] (gTag i j c) := by
  refine ⟨fun a cls d => tAsg (tTup (tCons (tC (.str c)) (tCons (tXf a cls d C "value" (tVar i)) tNil))) (gName j), fun a oe cls d pn hz hfl => pss_one (ps_set (X := X.suite a ((a, oe) :: pn)) (i := j) hNd hj hlj (pe_tup (pa_cons pe_str (pa_cons (pe_xf xf no hz hfl (pe_var hi hvi hd hcd) hb) pa_nil))) hs hf), fun σ I H e ps dd a x z d D hp s rx hx hg k => ?_⟩
  obtain ⟨hn, e2, ha, hd2⟩ := hg
  have hil := (List.getElem?_eq_some_iff.mp hn).1
  rw [s.len] at hil
  have e2e := asg_im ha
  have hn2 : e2[i]? = some none := by rw [e2e, List.getElem?_set_ne (Ne.symm hij)]; exact hn
  refine ⟨.ref a, List.getElem?_set_self hil, rfl, rfl, dd, _, x, rfl, hx, rfl, ?_⟩
  refine ⟨Nat.le_of_ble_eq_true rfl, fun q hq => ?_⟩
  have s1 := s.junk (o := some (.ref a)) hp hn
  have g := Grow.allocI (o := .tup [.str c, x]) s1.sub hq
  have s3 := s1.pushG (x := .ref q) (t := .imm (.tup [.str c, z])) g (.tup upd_same (.cons (.str _) (.cons (rx.mono g.le) .nil))) fun b hb => by simp at hb
  obtain ⟨I2, s2⟩ := s3.asg (hp.no _) ha
  exact k.nx _ I2 _ e2 hd2 (s2.junk hp hn2)
end
section
variable {e : En} {d : Ed} {z : D} {i j : Nat} {c : Str}
theorem s_try {C : Addr} {f : Fr → SvF} {g : D → SvF} (k : ∀ F' : Fr, F'.PX = (fun C' z e' => C' = C ∧ g z e' d) → f F' e d) : sTry C f g e d := k
theorem x_pxT {F' : Fr} {P : Addr → D → En → Prop} {C : Addr} {z : D} (hF : F'.PX = P) (k : P C z e) : F'.PX C z e := by rw [hF]; exact k
theorem x_got {C C' : Addr} {R : Prop} (h : C' = C) (k : R) : C' = C ∧ R := ⟨h, k⟩
theorem s_gVal (hn : e[i]? = some none) (k : ∃ e2, asg e j (.im z) = some e2 ∧ d.nx e2) : gVal i j z e d := ⟨hn, k⟩
theorem s_gTag (hn : e[i]? = some none) (k : ∃ e2, asg e j (.im (.tup [.str c, z])) = some e2 ∧ d.nx e2) : gTag i j c z e d := ⟨hn, k⟩
end
/-! ### + of own objects -/
section
variable {X : Cx} {F : Fr} {CX : CXT} {k : Nat} {C g : Addr} {fd : FuncData} {pn : List Str} {sp : Sp} {con : Con} {a b : Expr} {f1 f2 : EvF} {pos : Pos} {ta tb : TE} {E : L2.St → XK}
theorem pe_addOwn (G : FnOk X.prog X.w X.K X.mg X.base CX k g fd pn sp) (hr : Room k X.A) (hm : Meth X.K C "__add__" g) (hc : PySem.W.selfFirst X.K C = true) (hb : Binds X.K fd pn []) (hx : ∀ σ, PassesAt CX X σ (E σ)) (ha : PE X a ta) (hb' : PE X b tb) :
    PE X (.BinOp a .Add b pos) (fun σ H Q => ta σ H fun x H1 => tb σ H1 fun y H2 => rOwn2 C sp (E σ) x y H2 Q) := by
  refine ⟨fun pins s σ H Q I h => ?_⟩
  refine wpAny_BinOp (binT ha hb' I (R := fun x y H2 => rOwn2 C sp (E σ) x y H2 Q) h fun v u s2 x y H2 I2 rx ry q => ?_)
  obtain ⟨a', b', dx, dy, fs, gs, rfl, rfl, ea, eb, h⟩ := q
  obtain rfl : v = Value.ref a' := rx
  obtain rfl : u = Value.ref b' := ry
  obtain ⟨_, O, _⟩ := ins_get I2.hok ea
  obtain ⟨_, O', _⟩ := ins_get I2.hok eb
  obtain ⟨_, J, _⟩ := O.look
  obtain ⟨_, J', _⟩ := O'.look
  obtain ⟨_, fr⟩ := I2.fr
  refine PySem.W.binop_K (op := .Add) fr I2.ok.mod.kin J J'.type hc hm.at_ hm.fn ?_
  exact wpAny_mono (run_fnS G hr hb (hx σ) I2 (.cons (show RelV (.ref a') (.ref a') from rfl) (.cons (show RelV (.ref b') (.ref b') from rfl) .nil)) h) (fun _ _ q => back_of q) fun _ _ z => z
theorem DT.addO (d1 : DT F ta f1) (d2 : DT F tb f2) (fo : FrOk F) : DT F (fun σ H Q => ta σ H fun x H1 => tb σ H1 fun y H2 => rOwn2 C (spD F.K con) (WE F.W σ) x y H2 Q) (eOwn2 F.PX C con f1 f2) := fun σ I H e ps P Q s h k' => by
  refine d1 σ I H e ps _ _ s h fun x r1 e1 I1 H1 h1 s1 => ?_
  refine d2 σ I1 H1 e1 _ _ _ s1 h1 fun y r2 e2 I2 H2 h2 s2 => ?_
  obtain ⟨fs, gs, e3, e4, hf, hg, hc⟩ := h2
  rw [List.append_assoc] at s2
  obtain ⟨I3, _, s3⟩ := s2.frz hf
  have s3' : ST F σ I3 H2 e3 ((ps ++ [(x, .im (.obj C fs))]) ++ [(y, r2)]) := by rw [List.append_assoc]; exact s3
  obtain ⟨I4, _, s4⟩ := s3'.frz hg
  have ry : Rep F.K I4 y (.obj C gs) := ST.temp (ps := ps ++ [(x, .im (.obj C fs))]) (qs := []) (t := .imm (.obj C gs)) s4
  have rx : Rep F.K I4 x (.obj C fs) := ST.temp (ps := ps) (qs := []) (t := .imm (.obj C fs)) s4.weak
  cases rx with
  | @obj a _ dx fs' _ hx m1 r1 =>
    cases ry with
    | @obj b _ dy gs' _ hy m2 r2 =>
      refine ⟨a, b, dx, dy, fs', gs', rfl, rfl, s4.sub _ _ hx, s4.sub _ _ hy, ?_⟩
      refine ST.called (I := I4) (ps := ps) (as := [.v (.obj C fs), .v (.obj C gs)]) ?_ rfl fo hc k'
      rw [List.append_assoc] at s4
      exact s4
theorem de_addO (h1 : DE X F a f1) (h2 : DE X F b f2) (G : FnOk X.prog X.w X.K X.mg X.base (L2.CX X.prog X.w) k g fd pn (spD X.K con)) (hr : Room k X.A) (hm : Meth X.K C "__add__" g) (hc : PySem.W.selfFirst X.K C = true) (hb : Binds X.K fd pn []) (tk : Takes X F.W) (fo : FrOk F)
    (hK : F.K = X.K := by first | rfl | assumption) : DE X F (.BinOp a .Add b pos) (eOwn2 F.PX C con f1 f2) := by
  obtain ⟨t1, p1, d1⟩ := h1
  obtain ⟨t2, p2, d2⟩ := h2
  refine ⟨_, pe_addOwn G hr hm hc hb (fun σ => passAt tk σ) p1 p2, ?_⟩
  have z := DT.addO (C := C) (con := con) d1 d2 fo
  rw [hK] at z
  exact z
end
section
variable {i j : Int} {P : Ent → Prop} {xs : List D}
theorem o_slT {lo hi : Option Int} (k : P (.imm (.tup (cutL xs lo hi)))) : oSl (.tup xs) lo hi P := k
theorem o_neP {a b c d : Int} (k : P (.imm (.bl (!decide (a = c ∧ b = d))))) : oNe (.tup [.int a, .int b]) (.tup [.int c, .int d]) P := by
  refine ⟨by show okD 40 _ = true; simp [toPy, toPys, okD, okDs], by show okD 40 _ = true; simp [toPy, toPys, okD, okDs], ?_⟩
  have e : eqD (.tup [.int a, .int b]) (.tup [.int c, .int d]) = decide (a = c ∧ b = d) := by
    unfold eqD
    simp only [toPy, toPys, PyData.eqv, PyData.eqvAll, Bool.and_true]
    by_cases h1 : a = c <;> by_cases h2 : b = d <;> simp [h1, h2]
  rw [e]
  exact k
/-- a mirror's place, told by its first two cells -/
theorem o_neC {a b c d : Int} {z : D} (k : P (.imm (.bl (!decide (a = c ∧ b = d))))) : oNe (.tup (cutL [.int a, .int b, z] none (some 2))) (.tup [.int c, .int d]) P := by
  have e : cutL [D.int a, .int b, z] none (some 2) = [.int a, .int b] := rfl
  rw [e]
  exact o_neP k
end
theorem s_dnT {e : En} {P : Rv → En → Prop} (k : ∀ a, P (.ent (.own a (.dic []))) e) : eDnT e P := k
theorem s_dnK {e : En} {P : Rv → En → Prop} (k : ∀ a, P (.ent (.own a (.dik []))) e) : eDnK e P := k
/-! ### name += own object, by __add__ -/
/-- the class has no other base than object -/
def mroObj (K : PySem.W.Frag) (C : Addr) : Bool := (PySem.W.clsIn K C).any fun cd => cd.mro == [.ref C, .type "object"]
section
open PySem.W
variable {prog : Program} {w : World} {A : Around} {E : Value → Shared → Prop} {s : Shared} {K : Frag} {x C L f : Addr} {h₀ : Heap} {m : Str → Option Value} {ox : Obj} {od : Option Obj}
theorem noInpl {M : Model} {h : Heap} {nm : String} {add : Bool} (X : K.In h) (hc : mroObj K C = true) (hs : findIn K (.ref C) (dunderI nm) = some none) (ho : typeLookup (.type "object") (dunderI nm) = pure none) : Looks M h (fillsInplaceSlot (.ref C) nm add) false := by
  intro A Q E s k q
  obtain ⟨cd, hcd, hm⟩ := any_some hc
  have hm : cd.mro = [.ref C, .type "object"] := beq_iff_eq.mp hm
  unfold fillsInplaceSlot
  refine wpAny_bind ((looks_clsIn X hcd).andThen (f := fun cd => pure cd.mro) .now A _ E s k ?_)
  rw [hm, List.anyM_cons]
  refine wpAny_bind (wpAny_bind (looks_findIn X hs A _ E s k ?_))
  refine wpAny_pure ?_
  rw [List.anyM_cons, ho]
  refine wpAny_bind (wpAny_bind (wpAny_pure ?_))
  refine wpAny_pure ?_
  exact wpAny_pure q
theorem inplace_K {op : Operator} {b : Value} {Q : Value → Shared → Prop} (F : PyProof.Rows.Fr h₀ L s.heap m) (X₀ : K.In h₀) (I : InstAt s.heap x ox C od) (hb : Looks (model prog w) s.heap (typeOf b) (.ref C)) (hc : selfFirst K C = true)
    (hs : findIn K (.ref C) (PySem.dunder op.info.2) = some (some (.ref f))) (hf : isFn K (.ref f) = true) (hc2 : mroObj K C = true) (hi : findIn K (.ref C) (dunderI op.info.2) = some none) (ho : typeLookup (.type "object") (dunderI op.info.2) = pure none)
    (h : wpAny (model prog w) A (call (.ref f) [.ref x, b]) (PySem.W.CmpBack Q) E s) : wpAny (model prog w) A (inplaceOp op (.ref x) b) Q E s := by
  have X := X₀.keeps F.keep
  obtain ⟨cd, hcd, hm⟩ := any_some hc
  obtain ⟨rest, hm⟩ : ∃ rest, cd.mro = .ref C :: rest := by
    cases q : cd.mro with
    | nil => rw [q] at hm; cases hm
    | cons a r => rw [q] at hm; exact ⟨r, by rw [List.head?_cons] at hm; cases (beq_iff_eq.mp hm); rfl⟩
  unfold inplaceOp
  refine wpAny_holding (wpAny_bind (I.type.here (wpAny_bind ((noInpl X hc2 hi ho).here ?_))))
  simp only [Bool.false_eq_true, if_false]
  refine wpAny_bind ?_
  unfold binaryOp1
  refine wpAny_bind (I.type.here (wpAny_bind (hb.here (wpAny_bind ((fills_K X hcd hm hs).here ?_)))))
  simp only [beq_self_eq_true, if_true]
  refine wpAny_bind (wpAny_pure ?_)
  simp only [Bool.and_false, Bool.false_eq_true, if_false, Bool.false_and]
  refine wpAny_bind (wpAny_pure ?_)
  simp only [Bool.false_eq_true, if_false]
  refine wpAny_bind (m := tryMethod (.ref x) _ b) ?_
  unfold tryMethod
  refine wpAny_bind (special_fn X I hs (beq_iff_eq.mp hf) (wpAny_mono h (fun v s' hv => ?_) fun _ _ e => e))
  cases v <;> first | exact hv.elim | exact wpAny_pure (wpAny_pure (wpAny_pure hv))
end
section
variable {X : Cx} {F : Fr} {CX : CXT} {k i : Nat} {C g : Addr} {fd : FuncData} {pn : List Str} {sp : Sp} {con : Con} {b : Expr} {f2 : EvF} {pos pos' : Pos} {tb : TE} {E : L2.St → XK} {x : Str}
theorem ps_augOwn (G : FnOk X.prog X.w X.K X.mg X.base CX k g fd pn sp) (hr : Room k X.A) (hm : Meth X.K C "__add__" g) (hc : PySem.W.selfFirst X.K C = true) (hc2 : mroObj X.K C = true) (hno : PySem.W.findIn X.K (.ref C) "__iadd__" = some none) (hb : Binds X.K fd pn []) (hx : ∀ σ, PassesAt CX X σ (E σ))
    (hN : X.N.Nodup) (hi : X.N[i]? = some x) (hl : Loc X.env.scope x) (hb' : PE X b tb) (ho : typeLookup (.type "object") "__iadd__" = pure none := by rfl) (hf : X.fn x = true ∨ X.env.scope.names.lookup x = some .local := by first | exact .inl rfl | exact .inr rfl | assumption) :
    PS X (.AugAssign (.Name x pos') .Add b pos) (fun D σ H => tVar i σ H fun x H1 => tb σ H1 fun y H2 => rOwn2 C sp (E σ) x y H2 fun z H3 => D.nx (σ.set i (some z)) H3) := by
  refine ⟨fun pins s σ H D I h => ?_⟩
  obtain ⟨v, e1, h⟩ := h
  obtain ⟨m, hn, hl'⟩ := I.loc
  have vis : Vis X.env.scope x := by rcases hl with k | k; exact .inl k; exact .inr (.inl k)
  obtain ⟨u, r, l⟩ := hl' i x v hi e1 vis
  refine wpAny_AugAssign_Name ?_
  have go : wpAny (model X.prog X.w) X.A (eval b X.env) (fun w s₂ => wpAny (model X.prog X.w) X.A (inplaceOp .Add u w) (fun r s₃ => wpAny (model X.prog X.w) X.A (storeName X.env x r) (fun _ => SP X pins D .next) X.xe s₃) X.xe s₂) X.xe s := by
    refine thn (hb'.run pins s σ H _ I h) fun w s1 ⟨y, H1, I1, r1, q1⟩ => ?_
    have op : wpAny (model X.prog X.w) X.A (inplaceOp .Add u w) (EP X pins σ fun z H3 => D.nx (σ.set i (some z)) H3) X.xe s1 := by
      obtain ⟨a', b', dx, dy, fs, gs, rfl, rfl, ea, eb, h⟩ := q1
      obtain rfl : u = Value.ref a' := r
      obtain rfl : w = Value.ref b' := r1
      obtain ⟨_, O, _⟩ := ins_get I1.hok ea
      obtain ⟨_, O', _⟩ := ins_get I1.hok eb
      obtain ⟨_, J, _⟩ := O.look
      obtain ⟨_, J', _⟩ := O'.look
      obtain ⟨_, fr⟩ := I1.fr
      refine inplace_K (op := .Add) fr I1.ok.mod.kin J J'.type hc hm.at_ hm.fn hc2 hno ho ?_
      exact wpAny_mono (run_fnS G hr hb (hx σ) I1 (.cons (show RelV (.ref a') (.ref a') from rfl) (.cons (show RelV (.ref b') (.ref b') from rfl) .nil)) h) (fun _ _ q => back_of q) fun _ _ z => z
    refine thn op fun z s2 ⟨zv, H2, I2, r2, q2⟩ => ?_
    exact store_ok I2 hN hi hl r2 (fun s3 I3 => ⟨_, H2, I3, q2⟩) hf
  rcases l with ⟨hk, hm⟩ | ⟨hk, c, hc, hcell⟩
  · exact wpAny_loadName_local I.ok.kind hk hn hm go
  · rcases hk with hk | hk
    · exact wpAny_loadName_cell I.ok.kind hk hc hcell go
    · rcases hl with k | k
      · have : X.env.scope.names.lookup x = some .free := hk
        rw [k] at this; cases this
      · have : X.env.scope.names.lookup x = some .free := hk
        rw [k] at this; cases this
theorem DT.var : DT F (tVar i) (eVar i) := fun σ I H e ps P Q s h k => by
  rcases h with ⟨d, q, h⟩ | ⟨t, q, h⟩
  · obtain ⟨y, e1, e2⟩ := s.slot q
    exact ⟨y, e1, k y _ e I H h (s.pushI e2)⟩
  · obtain ⟨y, e1, e2⟩ := s.slot q
    exact ⟨y, e1, k y _ e I H h (s.pushS e1 q)⟩
theorem ds_augO (h2 : DE X F b f2) (G : FnOk X.prog X.w X.K X.mg X.base (L2.CX X.prog X.w) k g fd pn (spD X.K con)) (hr : Room k X.A) (hm : Meth X.K C "__add__" g) (hc : PySem.W.selfFirst X.K C = true) (hc2 : mroObj X.K C = true) (hno : PySem.W.findIn X.K (.ref C) "__iadd__" = some none) (hb : Binds X.K fd pn []) (tk : Takes X F.W) (fo : FrOk F)
    (hN : X.N.Nodup) (hi : X.N[i]? = some x) (hl : Loc X.env.scope x) (hK : F.K = X.K := by first | rfl | assumption) (ho : typeLookup (.type "object") "__iadd__" = pure none := by rfl) (hf : X.fn x = true ∨ X.env.scope.names.lookup x = some .local := by first | exact .inl rfl | exact .inr rfl | assumption) :
    DS X F (.AugAssign (.Name x pos') .Add b pos) (sSet i (eOwn2 F.PX C con (eVar i) f2)) := by
  obtain ⟨t2, p2, d2⟩ := h2
  refine ⟨_, ps_augOwn G hr hm hc hc2 hno hb (fun σ => passAt tk σ) hN hi hl p2 ho hf, fun σ I H e ps d D hp s h k => ?_⟩
  have z := DT.addO (C := C) (con := con) (DT.var (F := F) (i := i)) d2 fo
  rw [hK] at z
  refine z σ I H e ps _ _ s h fun x r e1 I1 H1 h1 s1 => ?_
  obtain ⟨e2, ha, h2⟩ := h1
  obtain ⟨I2, s2⟩ := s1.asg (hp.no _) ha
  exact k.nx _ I2 H1 e2 h2 s2
end
/-! ### try: body, except C: suite (no name) -/
def sTryN (K : PySem.W.Frag) (C : Addr) (f : Fr → SvF) (g : SvF) : SvF := fun e d => ∀ F' : Fr, F'.PX = (fun C' _ e' => PySem.W.exmOne K (.ref C') (.ref C) = some true ∧ g e' d) → f F' e d
theorem ds_tryN {X : Cx} {F : Fr} {x : Str} {C : Addr} {body suite : List Stmt} {b₀ : Stmt} {np pos pos' : Pos} {f : Fr → SvF} {g : SvF}
    (hs : X.stack = X.env :: X.outer) (hf : X.env.frame = some X.env.locals) (hc : Names X x (.ref C))
    (hb : ∀ (pn : List (Addr × Obj)) (xe : Value → Shared → Prop) (F' : Fr), F'.K = X.K → Takes (X.tr pn xe) F'.W → FrOk F' → DSs (X.tr pn xe) F' body (f F'))
    (hg : ∀ (a : Addr) (oe : Obj) (pn : List (Addr × Obj)), DSs (X.suite a ((a, oe) :: pn)) F (b₀ :: suite) g) (hK : F.K = X.K := by first | rfl | assumption) :
    DS X F (.Try body [.ExceptHandler (some (.Name x np)) none (b₀ :: suite) pos'] [] [] pos) (sTryN X.K C f g) := by
  let tb : WX → TS := fun W D σ H => ∃ (I : Hp) (e : En) (ps : Tm) (d : Ed) (F' : Fr), F'.K = X.K ∧ F'.W = W ∧ FrOk F' ∧ Imms ps ∧ ST F' σ I H e ps ∧ f F' e d ∧ EdR F' ps d D
  let ts : TS := fun D σ H => ∃ (I : Hp) (e : En) (ps : Tm) (d : Ed), Imms ps ∧ ST F σ I H e ps ∧ g e d ∧ EdR F ps d D
  refine ⟨_, ps_try_many (tb := tb) (Wout := fun _ _ _ _ => False) (l := [(.ref C, fun _ _ _ => ts)]) hs hf takes0 (fun W pn xe tk _ => ⟨fun pins s σ H D Iv h => ?_⟩) (.cons hc (fun a oe cls d pn _ _ => ⟨fun pins s σ H D Iv h => ?_⟩) .nil), fun σ I H e ps d D hp s h k => ?_⟩
  · obtain ⟨I, e, ps, d, F', hk, rfl, fo, im, st, hf', ed⟩ := h
    obtain ⟨t, p, dts⟩ := hb pn xe F' hk tk fo
    exact p.run pins s σ H D Iv (dts σ I H e ps d D im st hf' ed)
  · obtain ⟨I, e, ps, d', im, st, hg', ed⟩ := h
    obtain ⟨t, p, dts⟩ := hg a oe pn
    exact p.run pins s σ H D Iv (dts σ I H e ps d' D im st hg' ed)
  · refine ⟨I, e, ps, d, frTry F.K e ps I H (wMany X.K (fun _ _ _ _ => False) D [(.ref C, fun _ _ _ => ts)]) (fun C' z e' => PySem.W.exmOne X.K (.ref C') (.ref C) = some true ∧ g e' d), hK, rfl, ?_, hp, s.here, h _ rfl, ?_⟩
    · rintro σ' I' H' e' qs C' z x' dd s' ⟨te, hz⟩ rx hx
      refine ⟨true, te, fun _ a ha => ?_, fun z => nomatch z⟩
      have s1 : ST F σ' I' H' e' [] := ST.weak (ps := []) (qs := qs) (s.rebase s')
      have s2 : ST F σ' I' H' e' ps := s1.imms fun p m => by
        obtain ⟨d', e1, r⟩ := s.imreps hp p m
        exact ⟨d', e1, r.mono s'.base.imm⟩
      exact ⟨I', e', ps, d, hp, s2, hz, k⟩
    · exact ⟨fun σ' I' H' e' h' s' => k.nx σ' I' H' e' h' (s.rebase s'), fun x r σ' I' H' e' h' s' => k.rt x r σ' I' H' e' h' (s.rebase s'), fun σ' I' H' e' h' s' => k.bk σ' I' H' e' h' (s.rebase s'), fun σ' I' H' e' h' s' => k.ct σ' I' H' e' h' (s.rebase s')⟩
/-! ### a board of a list that stays one's own -/
def conBoardR (A : Ad) : Con := fun es P _ => ∃ (w h : Int) (ms : List Mir) (a : Addr), es = [.int w, .int h, .own a (mirsD ms)] ∧ ms.length ≤ 500 ∧ 1 ≤ w ∧ 1 ≤ h ∧ GoodMs w h ms ∧ P (.imm (brdD A.C_Board w h ms)) es
theorem mkD_BoardR {K : PySem.W.Frag} {A : Ad} : MkD K A.C_Board (spBoard A) (conBoardR A) := by
  intro vs H Q E hsp x dx hx hdx hne
  obtain ⟨I, es, P, PX, sub, env, ⟨w, h, ms, l, rfl, hz, a1, a2, gd, hp⟩, kq, ke⟩ := hsp
  obtain ⟨y1, e1, r1⟩ := env.at_ 0 (.int w) rfl
  obtain ⟨y2, e2, r2⟩ := env.at_ 1 (.int h) rfl
  obtain ⟨y3, e3, r3⟩ := env.at_ 2 (.own l (mirsD ms)) rfl
  have hv : vs = [.int w, .int h, .ref l] := by
    have hl := env.len
    match vs, hl with
    | [v1, v2, v3], _ =>
      simp at e1 e2 e3
      subst e1 e2 e3
      obtain ⟨rfl, _, _⟩ := r3
      cases r1
      cases r2
      rfl
  subst hv
  obtain ⟨_, il, xs, hl, rr⟩ := r3
  obtain ⟨as, rfl, tt⟩ := mirs_out sub rr
  have hxd : (upd H dx (.own x)) x = none := by rw [upd_ne (Ne.symm hne)]; exact hx
  have sm : Same H (upd (upd H dx (.own x)) x (.ins A.C_Board dx [])) := (Same.new hdx).trans (Same.new hxd)
  refine ⟨x, dx, w, h, l, ms, rfl, upd_same, ⟨as, sm _ _ hl, tt.keep fun b ys q => sm _ _ q⟩, hz, .inr (.inr (.inl ⟨a1, a2, gd, fun d H' hd0 hk hp' hd' => ⟨rfl, ?_⟩⟩))⟩
  have s2 : Same H H' := fun b o q => hk b o (sm b o q) (ne_of_none q hx)
  have hd00 : H d = none := by
    cases q : H d with
    | none => rfl
    | some o => rw [sm _ _ q] at hd0; cases hd0
  have hxd2 : x ≠ d := fun z => by rw [z, hd'] at hp'; cases hp'
  have i1 : I d = none := sub.none hd00
  have i2 : (upd I d (.dT (kvsOf ms))) x = none := by rw [upd_ne hxd2]; exact sub.none hx
  have g : Grow I H (upd (upd I d (.dT (kvsOf ms))) x (.ins A.C_Board dx (bflds w h d))) H' := by
    refine ⟨(Le.new i1).trans (Le.new i2), fun b o q => s2 b o q, fun b o q => ?_, fun b o q => ?_⟩
    · by_cases c1 : b = x
      · subst c1; rw [upd_same] at q; cases q; exact hp'
      · rw [upd_ne c1] at q
        by_cases c2 : b = d
        · subst c2; rw [upd_same] at q; cases q; exact hd'
        · rw [upd_ne c2] at q; exact s2 b o (sub b o q)
    · by_cases c1 : b = x
      · subst c1; exact .inr (.of hx)
      · rw [upd_ne c1] at q
        by_cases c2 : b = d
        · subst c2; exact .inr (.of hd00)
        · rw [upd_ne c2] at q; exact .inl q
  have rb : EntR K (upd (upd I d (.dT (kvsOf ms))) x (.ins A.C_Board dx (bflds w h d))) H' (.ref x) (.imm (brdD A.C_Board w h ms)) := brd_at (dx := dx) (d := d) upd_same (by rw [upd_ne (Ne.symm hxd2), upd_same])
  refine kq _ _ _ _ H' hp g.sub ((env.grow g.le fun b hb => ?_).push rb fun b hb => by simp at hb) ⟨g.le, fun b o q _ => g.same b o q, fun b hb => ?_, fun b o q => ?_⟩
  · obtain ⟨⟨o, q1, qt⟩, q2⟩ := env.has hb
    refine ⟨?_, fun u q => g.same b u q⟩
    cases z : (upd (upd I d (.dT (kvsOf ms))) x (.ins A.C_Board dx (bflds w h d))) b with
    | none => rfl
    | some u =>
      rcases g.new b u z with q | q
      · rw [q2] at q; cases q
      · obtain ⟨ys, e⟩ := q o q1
        exact absurd e (qt ys)
  · rcases mem_push.mp hb with z | ⟨u, e, z⟩
    · exact .inl z
    · cases e; simp at z
  · rcases g.new b o q with w | w
    · exact .inl w
    · exact .inr (.inr w)
/-! ### calls by name -/
def pmL {α : Type} (ix : List Nat) (l : List α) : List α := ix.filterMap fun i => l[i]?
theorem vals_pm {zs : List V} {ws : List Value} (r : Vals zs ws) : ∀ ix : List Nat, Vals (pmL ix zs) (pmL ix ws)
  | [] => .nil
  | i :: ix => by
    unfold pmL
    have hl := r.length
    cases h : zs[i]? with
    | none =>
      have h2 : ws[i]? = none := by
        rw [List.getElem?_eq_none_iff] at h ⊢
        omega
      rw [List.filterMap_cons_none h, List.filterMap_cons_none h2]
      exact vals_pm r ix
    | some z =>
      obtain ⟨w, h2, rz⟩ := Vals.get r h
      rw [List.filterMap_cons_some h, List.filterMap_cons_some h2]
      exact .cons rz (vals_pm r ix)
theorem reps_pm {K : PySem.W.Frag} {I : Hp} {xs : List V} {ds : List D} (r : Reps K I xs ds) : ∀ ix : List Nat, Reps K I (pmL ix xs) (pmL ix ds)
  | [] => .nil
  | i :: ix => by
    unfold pmL
    have hl := r.len
    cases h : ds[i]? with
    | none =>
      have h2 : xs[i]? = none := by
        rw [List.getElem?_eq_none_iff] at h ⊢
        omega
      rw [List.filterMap_cons_none h, List.filterMap_cons_none h2]
      exact reps_pm r ix
    | some z =>
      obtain ⟨w, h2, rz⟩ := r.get h
      rw [List.filterMap_cons_some h, List.filterMap_cons_some h2]
      exact .cons rz (reps_pm r ix)
/-- how a call by name binds: n values ahead, the others by the names ks -/
def KwB (K : PySem.W.Frag) (fd : FuncData) (pn : List Str) (n : Nat) (ks : List Str) (ix : List Nat) : Prop :=
  ∀ (s : Shared) (us ws : List Value), K.In s.heap → us.length = n → ws.length = ks.length → BindsTo s fd ⟨us, ks.zip ws⟩ (pn.zip (us ++ pmL ix ws))
structure DK (X : Cx) (F : Fr) (kws : List Keyword) (f : EvA) : Prop where
  ex : ∃ t, PK X kws t ∧ DTA F t f
section
variable {X : Cx} {F : Fr} {nm : Option Str} {ex : Expr} {kpos : Pos} {kws : List Keyword} {f : EvF} {g : EvA}
theorem dk_nil : DK X F [] aNil := ⟨_, pk_nil, fun σ I H e ps P Q s h k => k [] [] e I H h rfl (by simpa using s)⟩
theorem dk_cons (h1 : DE X F ex f) (h2 : DK X F kws g) : DK X F (⟨nm, ex, kpos⟩ :: kws) (aCons f g) := by
  obtain ⟨t1, p1, d1⟩ := h1
  obtain ⟨t2, p2, d2⟩ := h2
  refine ⟨_, pk_cons p1 p2, fun σ I H e ps P Q s h k => ?_⟩
  refine d1 σ I H e ps _ _ s h fun x r e1 I1 H1 h1 s1 => ?_
  refine d2 σ I1 H1 e1 _ _ _ s1 h1 fun xs rs e2 I2 H2 h2 hl s2 => ?_
  refine k (x :: xs) (r :: rs) e2 I2 H2 h2 (by simp [hl]) ?_
  rw [List.zip_cons_cons]
  rw [List.append_assoc] at s2
  exact s2
end
theorem ST.pushReps {F : Fr} {σ : L2.St} {I H : Hp} {e : En} : ∀ {xs : List V} {ds : List D} {ps : Tm}, ST F σ I H e ps → Reps F.K I xs ds → ST F σ I H e (ps ++ xs.zip ((ds.map Ag.v).map Ag.rv))
  | _, _, ps, s, .nil => by simpa using s
  | x :: xs, d :: ds, ps, s, .cons r rr => by
    have z := ST.pushReps (s.pushI r) rr
    rw [List.append_assoc] at z
    exact z
def eMethK (PX : Addr → D → En → Prop) (C : Addr) (m : Str) (con : Con) (ix : List Nat) (nk : Nat) (f : EvF) (g : EvA) : EvF := fun e P => f e fun r e1 => ∃ fs e2, frz e1 r = some (.obj C fs, e2) ∧ fs.lookup m = none ∧ g e2 fun rs e3 => ∃ ds e4, frzs e3 rs = some (ds, e4) ∧ ds.length = nk ∧ callD PX con ((D.obj C fs :: pmL ix ds).map Ag.v) e4 P
def eMakeK (PX : Addr → D → En → Prop) (con : Con) (ix : List Nat) (nk : Nat) (g : EvA) : EvF := fun e P => g e fun rs e1 => ∃ ds e2, frzs e1 rs = some (ds, e2) ∧ ds.length = nk ∧ callD PX con ((pmL ix ds).map Ag.v) e2 P
section
variable {X : Cx} {F : Fr} {CX : CXT} {k : Nat} {f C : Addr} {fd : FuncData} {pn ks : List Str} {ix : List Nat} {con : Con} {sp : Sp} {x m : Str} {p apos pos : Pos} {o : Expr} {kws : List Keyword} {g : EvA} {fo' : EvF} {ta : TE} {tk : TA} {E : L2.St → XK}
theorem pe_methEK {pl : Sem Bool} (he : PE X o ta) (c : Cls X.K C) (hm : Meth X.K C m f) (G : FnOk X.prog X.w X.K X.mg X.base CX k f fd pn sp) (hr : Room k X.A) (hb : KwB X.K fd pn 1 ks ix) (hx : ∀ σ, PassesAt CX X σ (E σ)) (hkw : PK X kws tk)
    (hall : (backToKw pos (keywordEach kws X.env)).all (·.1.isSome) = true := by rfl) (hks : (backToKw pos (keywordEach kws X.env)).filterMap (·.1) = ks := by rfl)
    (hpl : ((backTo pos (starEach [] X.env)).any (·.1) || (backToKw pos (keywordEach kws X.env)).any (·.1.isNone)) = false := by rfl)
    (ht : eval (.Call (.Attribute o m apos) [] kws pos) X.env = (do
      let ov ← eval o X.env; standAt apos.atName; let (f, first) ← holding [ov] (getMethod ov m pl)
      callWith pos f first (backTo pos (starEach [] X.env)) (backToKw pos (keywordEach kws X.env))) := by rfl) :
    PE X (.Call (.Attribute o m apos) [] kws pos) (fun σ H Q => ta σ H fun x H1 => ∃ a dx fs, x = .ref a ∧ H1 a = some (.ins C dx fs) ∧ fs.lookup m = none ∧ tk σ H1 fun zs H2 => zs.length = ks.length ∧ sp (.ref a :: pmL ix zs) H2 Q (E σ)) := by
  constructor
  intro pins s σ H Q I h
  apply PySem.W.methodCall_KW (pl := pl) (thn (he.run pins s σ H _ I h) ?_) ht
  rintro u s1 ⟨x, H1, I1, rx, a, dx, fs, rfl, ea, l, q⟩
  cases rx
  apply getmeth_ok I1 ea c hm l
  refine PySem.W.callWith_KW0 (first := [.ref a]) (h₀ := X.base) I.ok.mod.kin hm.kp hall (thn (hkw.run pos pins s1 σ H1 _ I1 q) fun ws s2 ⟨zs, H2, I2, rz, l2, q2⟩ => ⟨I2.kIn, ?_⟩) hpl
  rw [hks]
  have r2 : Vals (V.ref a :: pmL ix zs) (Value.ref a :: pmL ix ws) := .cons (show RelV (.ref a) (.ref a) from rfl) (vals_pm rz ix)
  refine wpAny_call (codeAny_mono (G.run X.A X.stack s2 H2 ⟨[.ref a], ks.zip ws⟩ (.ref a :: pmL ix ws) (.ref a :: pmL ix zs) Q (E σ) hr I2.env0 (hb s2 [.ref a] ws I2.kIn rfl (rz.length.symm.trans l2)) r2 q2) fun r s' hq => ?_)
  cases r with
  | error e => exact hx σ pins _ _ e s' I2 hq
  | ok fl =>
    cases fl with
    | ret u => exact I2.after hq
    | next => exact False.elim hq
    | brk => exact False.elim hq
    | cont => exact False.elim hq
theorem de_methK {pl : Sem Bool} (ho : DE X F o fo') (c : Cls X.K C) (hm : Meth X.K C m f) (G : FnOk X.prog X.w X.K X.mg X.base (L2.CX X.prog X.w) k f fd pn (spD X.K con)) (hr : Room k X.A) (hb : KwB X.K fd pn 1 ks ix) (tk : Takes X F.W) (fo : FrOk F) (hkw : DK X F kws g) (hK : F.K = X.K := by first | rfl | assumption)
    (hall : (backToKw pos (keywordEach kws X.env)).all (·.1.isSome) = true := by rfl) (hks : (backToKw pos (keywordEach kws X.env)).filterMap (·.1) = ks := by rfl)
    (hpl : ((backTo pos (starEach [] X.env)).any (·.1) || (backToKw pos (keywordEach kws X.env)).any (·.1.isNone)) = false := by rfl)
    (ht : eval (.Call (.Attribute o m apos) [] kws pos) X.env = (do
      let ov ← eval o X.env; standAt apos.atName; let (f, first) ← holding [ov] (getMethod ov m pl)
      callWith pos f first (backTo pos (starEach [] X.env)) (backToKw pos (keywordEach kws X.env))) := by rfl) :
    DE X F (.Call (.Attribute o m apos) [] kws pos) (eMethK F.PX C m con ix ks.length fo' g) := by
  obtain ⟨t0, p0, d0⟩ := ho
  obtain ⟨t, pk, dk⟩ := hkw
  refine ⟨_, pe_methEK (pl := pl) p0 c hm G hr hb (fun σ => passAt tk σ) pk hall hks hpl ht, fun σ I H e ps P Q s h k => ?_⟩
  refine d0 σ I H e ps _ _ s h fun x r e1 I1 H1 h1 s1 => ?_
  obtain ⟨fs, e2, hf, hn, h2⟩ := h1
  obtain ⟨I2, _, s2⟩ := s1.frz hf
  have rx : Rep F.K I2 x (.obj C fs) := ST.temp (qs := []) (t := .imm (.obj C fs)) s2
  cases rx with
  | @obj a _ dx gs _ hx mm rr =>
    refine ⟨a, dx, gs, rfl, s2.sub _ _ hx, fs_none mm hn, ?_⟩
    refine dk σ I2 H1 e2 _ _ _ s2 h2 fun zs rs e3 I3 H3 h3 hl s3 => ?_
    obtain ⟨ds, e4, hfz, hlen, hc⟩ := h3
    obtain ⟨I4, l4, s4, r4⟩ := s3.frzs hl hfz
    refine ⟨by rw [r4.len]; exact hlen, ?_⟩
    rw [← hK]
    have rx4 : Rep F.K I4 (.ref a) (.obj C fs) := ST.temp (qs := []) (t := .imm (.obj C fs)) s4
    have rp : Reps F.K I4 (.ref a :: pmL ix zs) (.obj C fs :: pmL ix ds) := .cons rx4 (reps_pm r4 ix)
    exact ST.called (s4.weak.pushReps rp) (by rw [List.length_map]; exact rp.len) fo hc k
theorem pe_makeEK (M : Mk X.K C f) (G : FnOk X.prog X.w X.K X.mg X.base CX k f fd pn sp) (hr : Room (k + 1) X.A) (hg : Gl X x) (hm : X.mg x = some (.ref C)) (hb : KwB X.K fd pn 1 ks ix) (hx : ∀ σ, PassesAt CX X σ (E σ)) (hkw : PK X kws tk)
    (hall : (backToKw pos (keywordEach kws X.env)).all (·.1.isSome) = true := by rfl) (hks : (backToKw pos (keywordEach kws X.env)).filterMap (·.1) = ks := by rfl) (hdb : (x == ("__debug__" : Str)) = false := by decide)
    (hpl : ((backTo pos (starEach [] X.env)).any (·.1) || (backToKw pos (keywordEach kws X.env)).any (·.1.isNone)) = false := by rfl) :
    PE X (.Call (.Name x p) [] kws pos) (fun σ H Q => tk σ H fun zs H1 => zs.length = ks.length ∧ ∀ q dx, H1 q = none → H1 dx = none → dx ≠ q → sp (.ref q :: pmL ix zs) (upd (upd H1 dx (.own q)) q (.ins C dx [])) (fun v H2 => v = .non ∧ Q (.ref q) H2) (E σ)) := by
  constructor
  intro pins s σ H Q I h
  refine wpAny_Call_Name_kw (ld_glob I hg hm ?_ hdb)
  refine PySem.W.callWith_KW0 (h₀ := X.base) I.ok.mod.kin M.kp hall ?_ hpl
  refine thn (hkw.run pos pins s σ H _ I h) fun ws s1 ⟨zs, H1, I1, rz, l2, q⟩ => ⟨I1.kIn, ?_⟩
  rw [hks]
  have hq := q (s1.heap.objs.size + 1) s1.heap.objs.size (I1.hok.fresh (Nat.le_succ _)) (I1.hok.fresh (Nat.le_refl _)) (Nat.ne_of_lt (Nat.lt_succ_self _))
  have I2 := Inv.made (C := C) I1
  have r2 : Vals (V.ref (s1.heap.objs.size + 1) :: pmL ix zs) (Value.ref (s1.heap.objs.size + 1) :: pmL ix ws) := .cons (show RelV (.ref _) (.ref _) from rfl) (vals_pm rz ix)
  have b := hb _ [Value.ref (s1.heap.objs.size + 1)] ws I2.kIn rfl (rz.length.symm.trans l2)
  apply wpAny_call
  apply make_map (f := f) I1.kIn M.makes M.init (beq_iff_eq.mp M.fn)
  apply codeAny_mono (G.run _ X.stack _ _ ⟨[Value.ref (s1.heap.objs.size + 1)], ks.zip ws⟩ _ _ _ (E σ) (hr.make C [] (ks.zip ws)) (I2.env0.make C [] (ks.zip ws)) b r2 hq)
  intro r s' hq'
  match r, hq' with
  | .error e, hq' => exact hx σ pins _ _ e s' I2 hq'
  | .ok (.ret u), hq' =>
    obtain ⟨v, H', I3, rv, ev, q3⟩ := I2.after hq'
    subst ev
    exact ⟨rv, ⟨V.ref (s1.heap.objs.size + 1), H', I3, rfl, q3⟩⟩
theorem de_makeK (M : Mk X.K C f) (G : FnOk X.prog X.w X.K X.mg X.base (L2.CX X.prog X.w) k f fd pn sp) (hM : MkD X.K C sp con) (hr : Room (k + 1) X.A) (hg : Gl X x) (hm : X.mg x = some (.ref C)) (hb : KwB X.K fd pn 1 ks ix) (tk : Takes X F.W) (fo : FrOk F) (hkw : DK X F kws g)
    (hK : F.K = X.K := by first | rfl | assumption) (hall : (backToKw pos (keywordEach kws X.env)).all (·.1.isSome) = true := by rfl) (hks : (backToKw pos (keywordEach kws X.env)).filterMap (·.1) = ks := by rfl) (hdb : (x == ("__debug__" : Str)) = false := by decide)
    (hpl : ((backTo pos (starEach [] X.env)).any (·.1) || (backToKw pos (keywordEach kws X.env)).any (·.1.isNone)) = false := by rfl) :
    DE X F (.Call (.Name x p) [] kws pos) (eMakeK F.PX con ix ks.length g) := by
  obtain ⟨t, pk, dk⟩ := hkw
  refine ⟨_, pe_makeEK M G hr hg hm hb (fun σ => passAt tk σ) pk hall hks hdb hpl, fun σ I H e ps P Q s h k => ?_⟩
  refine dk σ I H e ps _ _ s h fun zs rs e1 I1 H1 h1 hl s1 => ?_
  obtain ⟨ds, e2, hfz, hlen, hc⟩ := h1
  obtain ⟨I2, l2, s2, r2⟩ := s1.frzs hl hfz
  refine ⟨by rw [r2.len]; exact hlen, ?_⟩
  have rp := reps_pm r2 ix
  have z := ST.called (s2.pushReps rp) (by rw [List.length_map]; exact rp.len) fo hc k
  rw [hK] at z
  exact hM _ H1 Q _ z
end
section
variable {e : En} {P : Rv → En → Prop} {PX : Addr → D → En → Prop} {C : Addr} {m : Str} {con : Con} {ix : List Nat} {nk : Nat} {f : EvF} {g : EvA}
theorem s_methK (k : f e fun r e1 => ∃ fs e2, frz e1 r = some (.obj C fs, e2) ∧ fs.lookup m = none ∧ g e2 fun rs e3 => ∃ ds e4, frzs e3 rs = some (ds, e4) ∧ ds.length = nk ∧ callD PX con ((D.obj C fs :: pmL ix ds).map Ag.v) e4 P) : eMethK PX C m con ix nk f g e P := k
theorem s_makeK (k : g e fun rs e1 => ∃ ds e2, frzs e1 rs = some (ds, e2) ∧ ds.length = nk ∧ callD PX con ((pmL ix ds).map Ag.v) e2 P) : eMakeK PX con ix nk g e P := k
theorem x_frzsK {R : List D → En → Prop} {ds : List D} {e1 : En} {rs : List Rv} (h : frzs e rs = some (ds, e1)) (h2 : ds.length = nk) (k : R ds e1) : ∃ ds e2, frzs e rs = some (ds, e2) ∧ ds.length = nk ∧ R ds e2 := ⟨ds, e1, h, h2, k⟩
end
/-! ### != of own objects, by __eq__ -/
section
open PySem.W
variable {prog : Program} {w : World} {A : Around} {E : Value → Shared → Prop} {s : Shared} {K : Frag} {x C L f : Addr} {h₀ : Heap} {m : Str → Option Value} {ox : Obj} {od : Option Obj} {b tb : Value}
theorem one_bind (self : Value) : bindSpecial (.builtin "object.__ne__") self = pure (.builtin "object.__ne__", [self]) :=
  (Slot.of (T := "object") (name := "__ne__") (owner := "object") (n := "__ne__") (by rw [typeLookup_type, builtinLookup_eq_fast]; kernel_rfl) (by decide +kernel) (by decide +kernel) (by decide +kernel)
    (.inl (by decide +kernel)) (by rw [isSubtype_type]; kernel_rfl)).bind self
theorem objNe_K {Q : Fin → Shared → Prop} (hu : A.units < cLine) (X : K.In s.heap) (I : InstAt s.heap x ox C od) (hs : findIn K (.ref C) "__eq__" = some (some (.ref f))) (hf : isFn K (.ref f) = true)
    (h : wpAny (model prog w) A (call (.ref f) [.ref x, b]) (fun v s' => ∃ bb, v = .bool bb ∧ Q (.done (.ret (.bool (!bb)))) s') E s) : wpAny (model prog w) A (Builtin.«object.__ne__» ⟨[.ref x, b], []⟩) Q E s := by
  have go := ifBound_K (M := model prog w) (A := A) (E := E) (args := [b]) (Q := fun r s' => ∃ bb, r = some (.bool bb) ∧ Q (.done (.ret (.bool (!bb)))) s') X I hs hf (wpAny_mono h (fun v s' hv => by
    obtain ⟨bb, rfl, hq⟩ := hv
    exact ⟨bb, rfl, hq⟩) fun _ _ e => e)
  obtain ⟨hh, g, d, t, os⟩ := s
  unfold Builtin.«object.__ne__»
  repeat (first
    | with_reducible refine wpAny_cRoomFor hu ?_
    | (refine wpAny_bind (m := callSpecialIfBound? (.ref x) (Str.ofString "__eq__") [b]) (wpAny_mono go (fun r s' hr => by
        obtain ⟨bb, rfl, hq⟩ := hr
        repeat (first | exact hq | exact wpAny_pure hq | exact wpAny_truthy_bool hq | (refine wpAny_bind (m := truthy (.bool _)) (wpAny_truthy_bool ?_)) | wp_step)) fun _ _ e => e))
    | wp_step)
theorem ne_K {Q : Value → Shared → Prop} (hu : A.units + 1 < cLine) (F : PyProof.Rows.Fr h₀ L s.heap m) (X₀ : K.In h₀) (I : InstAt s.heap x ox C od) (hb : Looks (model prog w) s.heap (typeOf b) tb) (hn : notFirst K C tb = true)
    (hne : findIn K (.ref C) "__ne__" = some (some (.builtin "object.__ne__"))) (hmo : mroIn K C (.type "object") = some true) (hs : findIn K (.ref C) "__eq__" = some (some (.ref f))) (hf : isFn K (.ref f) = true)
    (h : wpAny (model prog w) A.in1 (call (.ref f) [.ref x, b]) (fun v s' => ∃ bb, v = .bool bb ∧ Q (.bool (!bb)) s') E s) : wpAny (model prog w) A (richCompare .NotEq (.ref x) b) Q E s := by
  have X := X₀.keeps F.keep
  have ck : Looks (model prog w) s.heap (isInstance (.ref x) (.type "object")) true := (I.type).andThen (looks_mroIn X hmo)
  have cl : wpAny (model prog w) A (call (.builtin "object.__ne__") ([.ref x] ++ [b]) >>= fun v => pure (some v)) (fun r s' => ∃ bb, r = some (.bool bb) ∧ Q (.bool bb) s') E s := by
    refine wpAny_bind (wpAny_call (codeAny_call_builtin (id := "object.__ne__") (by decide +kernel) PySem.F.cmpEntry_ne (check_slot PySem.F.cmpKind_ne PySem.F.cmpSplit_ne ck (PySem.F.cmpArgs_ne _ _) ?_) ))
    exact objNe_K (A := A.in1) hu X I hs hf (wpAny_mono h (fun v s' hv => by
      obtain ⟨bb, rfl, hq⟩ := hv
      exact ⟨bb, rfl, wpAny_pure ⟨_, rfl, hq⟩⟩) fun _ _ e => e)
  have one : wpAny (model prog w) A (tryCompare (.ref x) (cmpInfo .NotEq).2.1 b) (fun r s' => ∃ v, r = some v ∧ Q v s') E s := by
    unfold tryCompare
    refine wpAny_bind ?_
    simp only [callSpecialIfBound?, bindSpecialIfBound?]
    refine wpAny_holding (wpAny_bind (wpAny_bind (wpAny_bind (I.type.here ((looks_findIn X hne).here ?_)))))
    refine wpAny_bind (wpAny_askSetting (wpAny_ite ?_))
    split
    · exact wpAny_bind ((Looks.of_pure (one_bind _)).here (wpAny_pure (by exact wpAny_mono cl (fun r s' hr => by obtain ⟨bb, rfl, hq⟩ := hr; exact wpAny_pure ⟨_, rfl, hq⟩) fun _ _ e => e)))
    · exact wpAny_tryCatch (wpAny_bind ((Looks.of_pure (one_bind _)).here (wpAny_pure (by exact wpAny_mono cl (fun r s' hr => by obtain ⟨bb, rfl, hq⟩ := hr; exact wpAny_pure ⟨_, rfl, hq⟩) fun _ _ e => e))))
  unfold richCompare
  simp only [oneThing_ref]
  refine wpAny_holding (wpAny_bind (wpAny_cRoomFor (Nat.lt_of_succ_lt hu) ?_))
  refine wpAny_bind (I.type.here (wpAny_bind (hb.here ?_)))
  split
  · rename_i q
    have e : subIn K tb (.ref C) = some false := by
      rcases Bool.or_eq_true_iff.mp hn with e | e
      · rw [beq_iff_eq.mp e] at q; simp at q
      · exact beq_iff_eq.mp e
    refine wpAny_bind ((looks_subIn X e).here ?_)
    simp only [Bool.false_eq_true, if_false]
    refine wpAny_bind (wpAny_mono one (fun r s' z => ?_) fun _ _ e => e)
    obtain ⟨v, rfl, hq⟩ := z
    exact wpAny_pure hq
  · refine wpAny_bind (wpAny_pure ?_)
    simp only [Bool.false_eq_true, if_false]
    refine wpAny_bind (wpAny_mono one (fun r s' z => ?_) fun _ _ e => e)
    obtain ⟨v, rfl, hq⟩ := z
    exact wpAny_pure hq
end
/-! ### own objects against any value: ==, != -/
def rEqX (K : PySem.W.Frag) (C : Addr) (sp : Sp) (E : XK) : R2 := fun x y H Q => ∃ a dx fs t, x = .ref a ∧ H a = some (.ins C dx fs) ∧ TyX K H y t ∧ PySem.W.notFirst K C t = true ∧ sp [.ref a, y] H Q E
def rNeX (K : PySem.W.Frag) (C : Addr) (sp : Sp) (E : XK) : R2 := fun x y H Q => ∃ a dx fs t, x = .ref a ∧ H a = some (.ins C dx fs) ∧ TyX K H y t ∧ PySem.W.notFirst K C t = true ∧ sp [.ref a, y] H (fun v H2 => ∃ b, v = .bl b ∧ Q (.bl (!b)) H2) E
section
variable {X : Cx} {CX : CXT} {k : Nat} {C g : Addr} {fd : FuncData} {ps : List Str} {sp : Sp} {E : XK}
theorem o_eqX (F : FnOk X.prog X.w X.K X.mg X.base CX k g fd ps sp) (hr : Room k X.A) (hm : Meth X.K C "__eq__" g) (hb : Binds X.K fd ps []) (hx : Passes CX X E) : OpR X (compareOp .Eq) (rEqX X.K C sp E) := by
  intro pins s σ H x y v u Q I rx ry h
  obtain ⟨a, dx, fs, t, rfl, ea, ty, nf, h⟩ := h
  obtain rfl : v = Value.ref a := rx
  obtain ⟨_, O, _⟩ := ins_get I.hok ea
  obtain ⟨_, J, _⟩ := O.look
  obtain ⟨P, Z, p, _⟩ := kit_of I ry ty
  obtain ⟨_, fr⟩ := I.fr
  refine PySem.W.cmp_K (op := .Eq) (tb := t) hr.units0 fr I.ok.mod.kin J (Z.ty _ _ I.kIn p) nf hm.at_ hm.fn ?_
  exact wpAny_mono (run_fn (dvs := []) F hr hb .nil hx I (.cons (show RelV (.ref a) (.ref a) from rfl) (.cons ry .nil)) h) (fun _ _ q => back_of q) fun _ _ z => z
theorem o_neX (F : FnOk X.prog X.w X.K X.mg X.base CX k g fd ps sp) (hr : Room (k + 1) X.A) (hm : Meth X.K C "__eq__" g) (hne : PySem.W.findIn X.K (.ref C) "__ne__" = some (some (.builtin "object.__ne__"))) (hmo : PySem.W.mroIn X.K C (.type "object") = some true) (hb : Binds X.K fd ps []) (hx : Passes CX X E) : OpR X (compareOp .NotEq) (rNeX X.K C sp E) := by
  intro pins s σ H x y v u Q I rx ry h
  obtain ⟨a, dx, fs, t, rfl, ea, ty, nf, h⟩ := h
  obtain rfl : v = Value.ref a := rx
  obtain ⟨_, O, _⟩ := ins_get I.hok ea
  obtain ⟨_, J, _⟩ := O.look
  obtain ⟨P, Z, p, _⟩ := kit_of I ry ty
  obtain ⟨_, fr⟩ := I.fr
  have hu : X.A.units + 1 < cLine := by have := hr.un; omega
  have r2 : Vals [V.ref a, y] [Value.ref a, u] := .cons (show RelV (.ref a) (.ref a) from rfl) (.cons ry .nil)
  have hl : [Value.ref a, u].length = ps.length := by rw [← r2.length]; exact F.len _ _ _ _ h
  refine ne_K (tb := t) hu fr I.ok.mod.kin J (Z.ty _ _ I.kIn p) nf hne hmo hm.at_ hm.fn ?_
  refine wpAny_call (codeAny_mono (F.run X.A.in1 X.stack s H ⟨[.ref a, u], []⟩ [.ref a, u] [.ref a, y] _ E hr.in1 I.env0.in1 (hb s _ I.kIn hl) r2 h) fun r s' hq => ?_)
  cases r with
  | error e => exact hx pins σ H s e s' I hq
  | ok fl =>
    cases fl with
    | ret u' =>
      obtain ⟨z, H', I', rz, b, rfl, q⟩ := I.after hq
      cases (show u' = Value.bool b from rz)
      exact ⟨b, rfl, .bl (!b), H', I', rfl, q⟩
    | next => exact False.elim hq
    | brk => exact False.elim hq
    | cont => exact False.elim hq
end
/-- a value whose class does not come ahead of C in a comparison -/
def NoFst (K : PySem.W.Frag) (C : Addr) (d : D) : Prop := (∀ C' fs, d = .obj C' fs → IsiC K C') ∧ ∃ t, tyOfD d = some t ∧ PySem.W.notFirst K C t = true
def eEqX (K : PySem.W.Frag) (C : Addr) (con : Con) (f1 f2 : EvF) : EvF := fun e P => f1 e fun r1 e1 => f2 e1 fun r2 e2 => ∃ fs d e3 e4, frz e2 r1 = some (.obj C fs, e3) ∧ frz e3 r2 = some (d, e4) ∧ NoFst K C d ∧ callD (fun _ _ _ => False) con [.v (.obj C fs), .v d] e4 P
def eNeX (K : PySem.W.Frag) (C : Addr) (con : Con) (f1 f2 : EvF) : EvF := fun e P => f1 e fun r1 e1 => f2 e1 fun r2 e2 => ∃ fs d e3 e4, frz e2 r1 = some (.obj C fs, e3) ∧ frz e3 r2 = some (d, e4) ∧ NoFst K C d ∧ callD (fun _ _ _ => False) con [.v (.obj C fs), .v d] e4 fun r e5 => ∃ b : Bool, r = .ent (.imm (.bl b)) ∧ P (.ent (.imm (.bl (!b)))) e5
section
variable {X : Cx} {F : Fr} {k : Nat} {C g : Addr} {fd : FuncData} {pn : List Str} {con : Con} {a b : Expr} {f1 f2 : EvF} {pos : Pos}
theorem de_eqX (h1 : DE X F a f1) (h2 : DE X F b f2) (G : FnOk X.prog X.w X.K X.mg X.base (L2.CX X.prog X.w) k g fd pn (spD X.K con)) (hr : Room k X.A) (hm : Meth X.K C "__eq__" g) (hb : Binds X.K fd pn []) (hK : F.K = X.K := by first | rfl | assumption) (hmk : behindInMarks .Eq b = false := by exact nomark _) :
    DE X F (.Compare a [.Eq] [b] pos) (eEqX X.K C con f1 f2) := by
  obtain ⟨t1, p1, d1⟩ := h1
  obtain ⟨t2, p2, d2⟩ := h2
  refine ⟨_, pe_cmpR (o_eqX G hr hm hb (E := fun _ _ _ => False) passL) p1 p2 hmk, fun σ I H e ps P Q s h k' => ?_⟩
  rw [← hK] at h ⊢
  refine d1 σ I H e ps _ _ s h fun x r1 e1 I1 H1 h1 s1 => ?_
  refine d2 σ I1 H1 e1 _ _ _ s1 h1 fun y r2 e2 I2 H2 h2 s2 => ?_
  obtain ⟨fs, d, e3, e4, hf, hg, ⟨hC, t, ht, nf⟩, hc⟩ := h2
  rw [List.append_assoc] at s2
  obtain ⟨I3, _, s3⟩ := s2.frz hf
  have s3' : ST F σ I3 H2 e3 ((ps ++ [(x, .im (.obj C fs))]) ++ [(y, r2)]) := by rw [List.append_assoc]; exact s3
  obtain ⟨I4, _, s4⟩ := s3'.frz hg
  have ry : Rep F.K I4 y d := ST.temp (ps := ps ++ [(x, .im (.obj C fs))]) (qs := []) (t := .imm d) s4
  have rx : Rep F.K I4 x (.obj C fs) := ST.temp (ps := ps) (qs := []) (t := .imm (.obj C fs)) s4.weak
  have ty : TyX F.K H2 y t := tyX_of s4.sub (.inl ry) hC ht
  cases rx with
  | @obj a _ dx fs' _ hx m1 r1 =>
      refine ⟨a, dx, fs', t, rfl, s4.sub _ _ hx, ty, nf, ?_⟩
      refine ST.called (F := F.nox) (I := I4) (ps := ps) (as := [.v (.obj C fs), .v d]) ?_ rfl frok_nox hc fun x r e' I' H' p s => k' x r e' I' H' p s.unnox
      rw [List.append_assoc] at s4
      exact s4.nox
theorem de_neX (h1 : DE X F a f1) (h2 : DE X F b f2) (G : FnOk X.prog X.w X.K X.mg X.base (L2.CX X.prog X.w) k g fd pn (spD X.K con)) (hr : Room (k + 1) X.A) (hm : Meth X.K C "__eq__" g) (hne : PySem.W.findIn X.K (.ref C) "__ne__" = some (some (.builtin "object.__ne__"))) (hmo : PySem.W.mroIn X.K C (.type "object") = some true) (hb : Binds X.K fd pn []) (hK : F.K = X.K := by first | rfl | assumption) (hmk : behindInMarks .NotEq b = false := by exact nomark _) :
    DE X F (.Compare a [.NotEq] [b] pos) (eNeX X.K C con f1 f2) := by
  obtain ⟨t1, p1, d1⟩ := h1
  obtain ⟨t2, p2, d2⟩ := h2
  refine ⟨_, pe_cmpR (o_neX G hr hm hne hmo hb (E := fun _ _ _ => False) passL) p1 p2 hmk, fun σ I H e ps P Q s h k' => ?_⟩
  rw [← hK] at h ⊢
  refine d1 σ I H e ps _ _ s h fun x r1 e1 I1 H1 h1 s1 => ?_
  refine d2 σ I1 H1 e1 _ _ _ s1 h1 fun y r2 e2 I2 H2 h2 s2 => ?_
  obtain ⟨fs, d, e3, e4, hf, hg, ⟨hC, t, ht, nf⟩, hc⟩ := h2
  rw [List.append_assoc] at s2
  obtain ⟨I3, _, s3⟩ := s2.frz hf
  have s3' : ST F σ I3 H2 e3 ((ps ++ [(x, .im (.obj C fs))]) ++ [(y, r2)]) := by rw [List.append_assoc]; exact s3
  obtain ⟨I4, _, s4⟩ := s3'.frz hg
  have ry : Rep F.K I4 y d := ST.temp (ps := ps ++ [(x, .im (.obj C fs))]) (qs := []) (t := .imm d) s4
  have rx : Rep F.K I4 x (.obj C fs) := ST.temp (ps := ps) (qs := []) (t := .imm (.obj C fs)) s4.weak
  have ty : TyX F.K H2 y t := tyX_of s4.sub (.inl ry) hC ht
  cases rx with
  | @obj a _ dx fs' _ hx m1 r1 =>
      refine ⟨a, dx, fs', t, rfl, s4.sub _ _ hx, ty, nf, ?_⟩
      have s5 : ST F.nox σ I4 H2 e4 (ps ++ [V.ref a, y].zip ([Ag.v (.obj C fs), Ag.v d].map Ag.rv)) := by
        rw [List.append_assoc] at s4
        exact s4.nox
      refine ST.called (F := F.nox) (I := I4) (ps := ps) (as := [.v (.obj C fs), .v d]) s5 rfl frok_nox hc fun x r e' I' H' ⟨b, hb', p⟩ s => ?_
      subst hb'
      have rn : Rep F.K I' x (.bl b) := ST.temp (F := F.nox) (qs := []) (t := .imm (.bl b)) s
      cases rn
      exact ⟨b, rfl, k' _ _ e' I' H' p (s.unnox.weak.pushI (.bl (!b)))⟩
end
/-! ### xs[::-1] -/
theorem fm_congr {α β : Type} {f g : α → Option β} : ∀ {l : List α}, (∀ x ∈ l, f x = g x) → l.filterMap f = l.filterMap g
  | [], _ => rfl
  | x :: l, h => by
    rw [List.filterMap_cons, List.filterMap_cons, h x (List.mem_cons_self ..), fm_congr (l := l) fun y hy => h y (List.mem_cons_of_mem _ hy)]
theorem pick_rev {α : Type} (l : List α) : ((List.range l.length).map fun (k : Nat) => ((l.length : Int) - 1 + -1 * (k : Int)).toNat).filterMap (l.toArray[·]?) = l.reverse := by
  have e := pick_run l.reverse.toArray 0 l.length
  have e2 : (l.reverse.toArray.toList.drop 0).take l.length = l.reverse := by
    show (l.reverse.drop 0).take l.length = l.reverse
    rw [List.drop_zero, List.take_of_length_le (by rw [List.length_reverse]; exact Nat.le_refl _)]
  rw [e2] at e
  rw [← e, List.filterMap_map, List.filterMap_map]
  refine fm_congr fun k hk => ?_
  have hk := List.mem_range.mp hk
  show l.toArray[((l.length : Int) - 1 + -1 * (k : Int)).toNat]? = l.reverse.toArray[0 + k]?
  rw [show ((l.length : Int) - 1 + -1 * (k : Int)).toNat = l.length - 1 - k by omega, Nat.zero_add, List.getElem?_toArray, List.getElem?_toArray, List.getElem?_reverse hk]
theorem sliceRange_back (n : Nat) : sliceRange ((n : Int) - 1) (-1) (-1) = (List.range n).map fun (k : Nat) => ((n : Int) - 1 + -1 * (k : Int)).toNat := by
  have c : ((if (-1 : Int) > 0 then (if (n : Int) - 1 < -1 then (-1 - ((n : Int) - 1) + -1 - 1) / -1 else 0) else (if (n : Int) - 1 > -1 then ((n : Int) - 1 - -1 - -1 - 1) / (- -1) else 0)) : Int).toNat = n := by
    rw [if_neg (by decide)]
    by_cases h : (n : Int) - 1 > -1
    · rw [if_pos h, show (- -1 : Int) = 1 by decide, Int.ediv_one]
      omega
    · rw [if_neg h]
      omega
  show (List.range ((if (-1 : Int) > 0 then (if (n : Int) - 1 < -1 then (-1 - ((n : Int) - 1) + -1 - 1) / -1 else 0) else (if (n : Int) - 1 > -1 then ((n : Int) - 1 - -1 - -1 - 1) / (- -1) else 0)) : Int).toNat).map _ = _
  rw [c]
theorem slicePick_rev (its : List Value) : slicePick its.toArray none none (some (-1)) = its.reverse.toArray := by
  have e : sliceBounds none none (some (-1)) its.toArray.size = ((its.length : Int) - 1, -1, -1) := by
    rw [List.size_toArray]
    rfl
  unfold slicePick
  rw [e, ← pick_rev its]
  show ((sliceRange ((its.length : Int) - 1) (-1) (-1)).filterMap _).toArray = _
  rw [sliceRange_back]
def rRev (K : PySem.W.Frag) : V → Hp → VK → Prop := fun x H Q => ∃ a xs, x = .ref a ∧ SqL K H a xs ∧ ∀ p, H p = none → Q (.ref p) (upd H p (.lst xs.reverse))
def tRev (K : PySem.W.Frag) (te ts : TE) : TE := fun σ H Q => te σ H fun x H1 => ts σ H1 fun z H2 => z = .int (-1) ∧ rRev K x H2 Q
def eRev (f g : EvF) : EvF := fun e P => f e fun r e1 => g e1 fun r2 e2 => ∃ ds, val e2 r = some (.lst ds) ∧ val e2 r2 = some (.int (-1)) ∧ ∀ a, P (.ent (.own a (.lst ds.reverse))) e2
section
variable {X : Cx} {F : Fr} {f g : EvF} {e st : Expr} {te ts : TE} {p2 pos : Pos}
theorem pe_rev (he : PE X e te) (hs : PE X st ts) : PE X (.Subscript e (.Slice none none (some st) p2) pos) (tRev X.K te ts) := by
  refine ⟨fun pins s σ H Q I h => ?_⟩
  refine Subscript_ (thn (he.run pins s σ H _ I h) fun v s1 ⟨x, H1, I1, r1, q1⟩ => ?_)
  refine wpAny_Slice ?_
  rw [evalPart_none]
  refine wpAny_pure (wpAny_pure ?_)
  rw [evalPart_some]
  refine thn (hs.run pins s1 σ H1 _ I1 q1) fun vs s3 ⟨z, H3, I3, rz, hz, a, xs, hx, hq, q⟩ => ?_
  subst hz
  subst hx
  obtain ⟨tz, rfl⟩ := rz
  cases (show v = Value.ref a from r1)
  obtain ⟨s4, hs4⟩ : ∃ s4 : Shared, s4 = { s3 with heap := s3.heap.push { cls := .type "slice", data := .fields #[.none, .none, .int (-1) tz] } } := ⟨_, rfl⟩
  have I4 : Inv X pins σ H3 s4 := by
    rw [hs4]
    exact I3.kept (t' := s3.toks) fun b ob q => Heap.get?_push_of_some _ q
  have hsl : s4.heap.IsSliceOf s3.heap.objs.size .none .none (.int (-1) tz) := by
    rw [hs4]
    exact Heap.IsSliceOf.new ..
  obtain ⟨its, r, ht, hz⟩ := I4.list hq
  have hlen := r.length
  rw [← hs4]
  show wpAny (model X.prog X.w) X.A (subscriptTail e (.Slice none none (some st) p2) (.ref a) (.ref s3.heap.objs.size)) (EP X pins σ Q) X.xe s4
  refine tail_any (ops := [.ref a, .ref s3.heap.objs.size]) ht.isList.typeIs slot_list_getitem.lookup ?_ (by with_unfolding_all rfl)
  refine wpAny_getItem_list_slice ht.isList hsl .none .none (.int (-1) tz) (by simp) ?_ (by rw [List.size_toArray] <;> omega)
  rw [slicePick_rev]
  refine ⟨.ref s4.heap.objs.size, _, I4.laid (t' := s4.toks) (o := .lst xs.reverse) (fun b ob q => Heap.get?_push_of_some _ q) (Nat.le_refl _) ?_, rfl, q _ (I4.hok.fresh (Nat.le_refl _))⟩
  exact ⟨by rw [List.length_reverse]; exact hz, _, 0, r.reverse, Heap.get?_push_size _ rfl⟩
theorem de_rev (h1 : DE X F e f) (h2 : DE X F st g) (hK : F.K = X.K := by first | rfl | assumption) : DE X F (.Subscript e (.Slice none none (some st) p2) pos) (eRev f g) := by
  obtain ⟨t1, p1, d1⟩ := h1
  obtain ⟨t2, p2, d2⟩ := h2
  refine ⟨_, pe_rev p1 p2, fun σ I H e ps P Q s h k => ?_⟩
  rw [← hK]
  refine d1 σ I H e ps _ _ s h fun x r e1 I1 H1 h1 s1 => ?_
  refine d2 σ I1 H1 e1 _ _ _ s1 h1 fun y r2 e2 I2 H2 h2 s2 => ?_
  obtain ⟨ds, v1, v2, q⟩ := h2
  have w2 := s2.vw (qs := []) v2
  have s2' := s2
  rw [List.append_assoc] at s2'
  have w1 := s2'.vw (qs := [(y, r2)]) v1
  obtain ⟨a, xs, rfl, q1, rr⟩ := w1.lst s2.sub
  have kk : Lands F.K I2 H2 (fun t => P (.ent t) e2) Q := fun z t I4 H4 p4 g4 r4 n4 => k z _ e2 I4 H4 p4 (s2.weak.weak.pushG g4 r4 n4)
  exact ⟨w2.int, a, xs, rfl, SqL.of q1, kk.lst s2.sub q rr.rev⟩
end
theorem s_rev {f g : EvF} {e : En} {P : Rv → En → Prop} (k : f e fun r e1 => g e1 fun r2 e2 => ∃ ds, val e2 r = some (.lst ds) ∧ val e2 r2 = some (.int (-1)) ∧ ∀ a, P (.ent (.own a (.lst ds.reverse))) e2) : eRev f g e P := k
theorem s_eqX {K : PySem.W.Frag} {C : Addr} {con : Con} {f1 f2 : EvF} {e : En} {P : Rv → En → Prop} (k : f1 e fun r1 e1 => f2 e1 fun r2 e2 => ∃ fs d e3 e4, frz e2 r1 = some (.obj C fs, e3) ∧ frz e3 r2 = some (d, e4) ∧ NoFst K C d ∧ callD (fun _ _ _ => False) con [.v (.obj C fs), .v d] e4 P) : eEqX K C con f1 f2 e P := k
theorem s_neX {K : PySem.W.Frag} {C : Addr} {con : Con} {f1 f2 : EvF} {e : En} {P : Rv → En → Prop} (k : f1 e fun r1 e1 => f2 e1 fun r2 e2 => ∃ fs d e3 e4, frz e2 r1 = some (.obj C fs, e3) ∧ frz e3 r2 = some (d, e4) ∧ NoFst K C d ∧ callD (fun _ _ _ => False) con [.v (.obj C fs), .v d] e4 fun r e5 => ∃ b : Bool, r = .ent (.imm (.bl b)) ∧ P (.ent (.imm (.bl (!b)))) e5) : eNeX K C con f1 f2 e P := k
theorem x_nb {b : Bool} {R : Bool → Prop} (k : R b) : ∃ c : Bool, Rv.ent (.imm (.bl b)) = .ent (.imm (.bl c)) ∧ R c := ⟨b, rfl, k⟩
theorem x_rev {e : En} {r1 r2 : Rv} {ds : List D} {R : List D → Prop} (h : val e r1 = some (.lst ds)) (h2 : val e r2 = some (.int (-1))) (k : R ds) : ∃ ds, val e r1 = some (.lst ds) ∧ val e r2 = some (.int (-1)) ∧ R ds := ⟨ds, h, h2, k⟩
/-! ### a board against a value that is none -/
def spEqN (K : PySem.W.Frag) (A : Ad) : Sp := fun vs H Q _ => ∃ p y t, vs = [.ref p, y] ∧ TyX K H y t ∧ PySem.W.kitOne K t (.ref A.C_Board) = some false ∧ Q (.bl false) H
def conEqN (K : PySem.W.Frag) (A : Ad) : Con := fun es P _ => ∃ (w h : Int) (ms : List Mir) (d : D) (t : Value), es = [.imm (brdD A.C_Board w h ms), .imm d] ∧ (∀ C fs, d ≠ .obj C fs) ∧ tyOfD d = some t ∧ PySem.W.kitOne K t (.ref A.C_Board) = some false ∧ P (.imm (.bl false)) es
theorem eqN_of {K : PySem.W.Frag} {A : Ad} {vs : List V} {H : Hp} {Q : VK} {E : XK} (h : spD K (conEqN K A) vs H Q E) : spEqN K A vs H Q E := by
  obtain ⟨I, es, P, PX, sub, env, ⟨w, h, ms, d, t, rfl, hn, ht, hk, hP⟩, kq, _⟩ := h
  have env' : EnvR K I H (vs.map some) (([brdD A.C_Board w h ms, d].map Ent.imm).map some) := env
  have r := imm_in env'
  cases r with
  | cons r1 r => cases r with
    | cons r2 r =>
    cases r
    obtain ⟨p, rfl, b⟩ := brd_of sub r1
    refine ⟨p, _, t, rfl, tyX_of sub (.inl r2) (fun C fs e => absurd e (hn C fs)) ht, hk, ?_⟩
    obtain ⟨e1, e2⟩ := imm_out (x := .bl _) (t := .imm (.bl _)) env' (Grow.refl sub) (.bl _) fun a ha => by simp at ha
    exact kq _ _ _ I H hP sub e1 e2
theorem kit_no {K : PySem.W.Frag} {C : Addr} {n : String} (z : PySem.W.isClsIn K C = true) (t : PySem.W.typeIn K (.ref C) = some (.type "type")) (h : PySem.W.subIn K (.type n) (.ref C) = some false) : PySem.W.kitOne K (.type n) (.ref C) = some false := by
  have z' : (PySem.W.clsIn K C).isSome = true := z
  show (if (Value.type n == Value.ref C) = true then some true else if ((PySem.W.clsIn K C).isSome && PySem.W.typeIn K (.ref C) == some (.type "type")) = true then PySem.W.subIn K (.type n) (.ref C) else none) = some false
  rw [if_neg (show ¬ ((Value.type n == Value.ref C) = true) from fun q => by cases q), z', t, if_pos (by decide +kernel), h]
theorem nofst {K : PySem.W.Frag} {C : Addr} {n : String} {d : D} (hn : ∀ C fs, d ≠ .obj C fs) (ht : tyOfD d = some (.type n)) (h : PySem.W.subIn K (.type n) (.ref C) = some false) : NoFst K C d :=
  ⟨fun C' fs e => absurd e (hn C' fs), _, ht, by unfold PySem.W.notFirst; rw [h]; simp⟩
theorem sub_tuple {K : PySem.W.Frag} {C : Addr} : PySem.W.subIn K (.type "tuple") (.ref C) = some false := rfl
theorem sub_list {K : PySem.W.Frag} {C : Addr} : PySem.W.subIn K (.type "list") (.ref C) = some false := rfl
theorem sub_str {K : PySem.W.Frag} {C : Addr} : PySem.W.subIn K (.type "str") (.ref C) = some false := rfl
theorem sub_int {K : PySem.W.Frag} {C : Addr} : PySem.W.subIn K (.type "int") (.ref C) = some false := rfl
theorem sub_bool {K : PySem.W.Frag} {C : Addr} : PySem.W.subIn K (.type "bool") (.ref C) = some false := rfl
theorem sub_none {K : PySem.W.Frag} {C : Addr} : PySem.W.subIn K (.type "NoneType") (.ref C) = some false := rfl
section
variable {P : Program} {w : World} {K : PySem.W.Frag} {mg : Str → Option Value} {base : Heap} {A : Ad}
theorem nofst_brd (T : Txt K mg A) {fs : List (Str × D)} : NoFst K A.C_Board (.obj A.C_Board fs) :=
  ⟨fun C' fs' e => by cases e; exact ⟨T.cl_Board, T.i1_Board, T.i2_Board, T.i3_Board, T.i4_Board⟩, _, rfl, by unfold PySem.W.notFirst; simp⟩
theorem eqn_r (T : Txt K mg A) : FnOk P w K mg base CX0 2 A.f_Board___eq__ A.d_Board___eq__ P_Board___eq__ (spEqN K A) := by
  refine T.F_Board___eq__.ok sc_Board___eq__ (fun vs H Q E h => ?_) (fun cdv A' outer s H vs Q E hr h => ?_)
  · obtain ⟨p, y, t, rfl, _⟩ := h
    rfl
  · obtain ⟨p, y, t, rfl, ty, hk, kk⟩ := h
    have hu := hu_of hr
    refine ⟨_, (pss_one (ps_ret (pe_and (pe_callB call_isi (by rfl) T.n_isinstance (by decide +kernel) (pa_cons (pv 1) (pa_cons (pe_glob (v := .ref A.C_Board) rfl T.g_Board rfl) pa_nil))) (pe_and (pe_cmpR op_eq (pe_fld (pv 0) rfl) (pe_fld (pv 1) rfl) (nomark _)) (pe_and (pe_cmpR op_eq (pe_fld (pv 0) rfl) (pe_fld (pv 1) rfl) (nomark _)) (pe_one (pe_cmpR (o_eqT hu) (pe_fld (pv 0) rfl) (pe_fld (pv 1) rfl) (nomark _)))))))), ?_⟩
    walk_at "rs"
    refine ⟨y, .ref A.C_Board, t, .ref A.C_Board, false, rfl, .own _, ty, hk, ?_⟩
    walk_at "rs"
    exact kk
theorem eqn_ok (T : Txt K mg A) : FnOk P w K mg base (L2.CX P w) 2 A.f_Board___eq__ A.d_Board___eq__ P_Board___eq__ (spD K (conEqN K A)) := FnOk.lift (eqn_r T) fun _ _ _ _ h => eqN_of h
end
/-! ### try with several clauses `except C as n` -/
/-- a clause: its class, its name's slot, its suite's reading -/
abbrev Cla := Value × Nat × (Addr → Value → Option Addr → TS)
/-- the ends behind a suite: the name is gone -/
abbrev endOff (D : Ends) (i : Nat) : Ends := { nx := fun τ J => D.nx (τ.set i none) J, rt := D.rt, bk := fun τ J => D.bk (τ.set i none) J, ct := fun τ J => D.ct (τ.set i none) J }
def wAll (K : PySem.W.Frag) (Wout : WX) (D : Ends) : List Cla → WX
  | [] => Wout
  | (c, i, ts) :: r => fun kc dd τ J => ∃ b, PySem.W.exmOne K kc c = some b ∧ (b = true → ∀ xa, J xa = none → ts xa kc dd (endOff D i) (τ.set i (some (.ref xa))) J) ∧ (b = false → wAll K Wout D r kc dd τ J)
inductive ClaOk (X : Cx) : List ExceptHandler → List Cla → Prop
  | nil : ClaOk X [] []
  | cons {x n : Str} {c : Value} {i : Nat} {ts : Addr → Value → Option Addr → TS} {b₀ : Stmt} {su : List Stmt} {np hp : Pos} {hs : List ExceptHandler} {l : List Cla} (hc : Names X x c) (hi : X.N[i]? = some n) (hl : X.env.kindOf n = some .local)
      (hsu : ∀ (xa : Addr) (oe : Obj) (kc : Value) (dd : Option Addr) (pn : List (Addr × Obj)), Zc kc dd oe → (∃ vs, oe.data = .fields vs) → PSs (X.suite xa ((xa, oe) :: pn)) (b₀ :: su) (ts xa kc dd)) (r : ClaOk X hs l) :
      ClaOk X (.ExceptHandler (some (.Name x np)) (some n) (b₀ :: su) hp :: hs) ((c, i, ts) :: l)
theorem ps_try_all {X : Cx} {body : List Stmt} {h₁ : ExceptHandler} {hs : List ExceptHandler} {l : List Cla} {pos : Pos} {tb : WX → TS} {Wout : WX} (hst : X.stack = X.env :: X.outer) (hfr0 : X.env.frame = some X.env.locals) (hN : X.N.Nodup) (tk : Takes X Wout)
    (hb : ∀ (W : WX) (pn : List (Addr × Obj)) (xe : Value → Shared → Prop), Takes (X.tr pn xe) W → PSs (X.tr pn xe) body (tb W)) (hh : ClaOk X (h₁ :: hs) l) :
    PS X (.Try body (h₁ :: hs) [] [] pos) (fun D τ J => tb (wAll X.K Wout D l) D τ J) := by
  constructor
  intro pins s τ0 J0 D iv h
  have okX := iv.ok
  have frs0 : X.A.frames = some (X.env :: X.outer) := okX.frames.trans (congrArg some hst)
  apply wpAny_Try_except
  have body_ := (hb (wAll X.K Wout D l) (X.pn ++ pins) (fun e sa => wpAny (model X.prog X.w) X.A (noteFrame e X.env) (fun _ sb => wpAny (model X.prog X.w) X.A (setFlight e none) (fun _ sc =>
    wpAny (model X.prog X.w) X.A (handleBy e X.env (h₁ :: hs)) (SP X pins D) X.xe sc) X.xe sb) X.xe sa) (fun u sx xx => ?_)).run [] s τ0 J0 D (iv.toTry _) h
  · apply wpAny_mono body_
    · intro fl s1 q
      cases fl with
      | next =>
        obtain ⟨τ, J, iv1, q⟩ := q
        exact wpAny_execs_nil ⟨τ, J, iv1.ofTry okX, q⟩
      | brk =>
        obtain ⟨τ, J, iv1, q⟩ := q
        exact ⟨τ, J, iv1.ofTry okX, q⟩
      | cont =>
        obtain ⟨τ, J, iv1, q⟩ := q
        exact ⟨τ, J, iv1.ofTry okX, q⟩
      | ret u =>
        obtain ⟨v, τ, J, iv1, rv, q⟩ := q
        exact ⟨v, τ, J, iv1.ofTry okX, rv, q⟩
    · exact fun _ _ z => z
  · obtain ⟨xa, G0, s0, pp, τ, J, kc, dd, rfl, iv0, ng, u0, sk, nx, eo, eg, wv⟩ := xx
    have iv1 : Inv X pins τ J s0 := iv0.ofTry okX
    have sk1 : Sky G0 (X.env :: X.outer) xa (Zc kc dd) X.env.locals sx.heap := hst ▸ sk
    refine Sky.land (A := X.A) Zc.steady frs0 hfr0 sk1 fun g3 f3 u3 => ?_
    have iv3 : Inv X pins τ J { sx with heap := g3 } := iv1.landed ng f3.1 (u0.trans u3) eo eg
    obtain ⟨o3, w3, q3, z3, d3⟩ := f3.there
    have out3 : xa ∉ L2.frs (X.env :: X.outer) := fun m => by
      obtain ⟨_, o', q', nf⟩ := f3.2.2.1.mem m
      rw [q3] at q'
      cases q'
      exact nf _ d3
    have out1 : xa ≠ X.env.locals := fun z => out3 (List.mem_filterMap.mpr ⟨X.env, List.mem_cons_self, by rw [hfr0, z]⟩)
    have out2 : xa ∉ X.fs := fun m => by
      obtain ⟨e, me, q⟩ := List.mem_filterMap.mp m
      exact out3 (List.mem_filterMap.mpr ⟨e, List.mem_cons_of_mem _ me, q⟩)
    have su3 := iv3.suite q3 d3 nx out1 out2
    have run_ : ∀ {ks : List ExceptHandler} {ls : List Cla}, ClaOk X ks ls → wAll X.K Wout D ls kc dd τ J → wpAny (model X.prog X.w) X.A (handleBy (.ref xa) X.env ks) (SP X pins D) X.xe { sx with heap := g3 } := by
      intro ks ls hk
      induction hk with
      | nil =>
        intro wn
        refine wpAny_handleBy_nil ?_
        obtain ⟨_, _, _, oe, ws, Tb, oT, tz, qe, ze, de, e1, _⟩ := id f3
        unfold PySem.passOn
        apply wpAny_bind
        apply wpAny_field qe de e1
        rw [if_neg (by simp : ¬ ((Value.ref Tb == Value.none) = true))]
        have last : wpAny (model X.prog X.w) X.A (setFlight (.ref xa) X.env.frame) (fun _ sz => wpAny (model X.prog X.w) X.A (throw (.ref xa) : Sem Flow) (SP X pins D) X.xe sz) X.xe { sx with heap := g3 } := by
          rw [hfr0]
          exact HandSPX.setFlight_upZ f3 fun g4 hg4 u4 => wpAny_throw (tk _ _ ⟨xa, G0, s0, pins, τ, J, kc, dd, rfl, iv1, ng, (u0.trans u3).trans u4, .inr (.inr (by rw [hst]; exact hg4)), nx, eo, eg, wn⟩)
        first
          | exact wpAny_bind last
          | exact wpAny_bind (wpAny_pure (wpAny_bind last))
      | @cons x n c i ts b₀ su np hp ks ls hc hi hl hsu r ih =>
        intro wn
        obtain ⟨b, hb1, yes_, no_⟩ := wn
        refine wpAny_handleBy_cons (codeAny_handlers_test ?_) (by intro q; cases q)
        have look : PySem.W.Looks (model X.prog X.w) g3 (typeOf (.ref xa)) kc := fun A Q E s k q => wpAny_typeOf_ref (k _ _ q3) (by rw [z3.1]; exact q)
        have here := PySem.W.exm_one (M := model X.prog X.w) iv3.kIn look hb1
        have named : ∀ {Q E : Value → Shared → Prop}, Q c { sx with heap := g3 } → wpAny (model X.prog X.w) (X.A.mark (some (.ref xa))) (eval (.Name x np) X.env) Q E { sx with heap := g3 } := fun {Q E} q => by
          obtain ⟨ng1, ng2, ng3⟩ := hc
          rcases ng3 with m | ⟨m, v, nn⟩
          · exact ld_glob (X := X.suite xa ((xa, o3) :: (X.pn ++ pins))) su3 ng1 m q ng2
          · exact ld_blt (X := X.suite xa ((xa, o3) :: (X.pn ++ pins))) su3 ng1 m v q nn ng2
        apply named
        apply here.here
        cases b with
        | false => exact ih (no_ rfl)
        | true =>
          apply codeAny_handlers_suite_as
          refine HandSPX.lands_againZ f3 fun g4 f4 u4 => ?_
          have iv4 : Inv X pins τ J { sx with heap := g4 } := iv1.landed ng f4.1 ((u0.trans u3).trans u4) eo eg
          obtain ⟨o4, w4, q4, z4, d4⟩ := f4.there
          have su4 := iv4.suite q4 d4 nx out1 out2
          refine store_ok (X := X.suite xa ((xa, o4) :: (X.pn ++ pins))) (v := .ref xa) su4 hN hi (.inl hl) rfl (fun s5 su5 => ?_) (.inr hl)
          apply wpAny_mono ((hsu xa o4 kc dd (X.pn ++ pins) z4 ⟨_, d4⟩).run [] s5 _ J _ su5 (yes_ rfl xa nx))
          · intro fl s6 q6
            have off : ∀ {τ6 : L2.St} {J6 : Hp} {Q : Shared → Prop}, Inv (X.suite xa ((xa, o4) :: (X.pn ++ pins))) [] τ6 J6 s6 → (∀ s7, Inv X pins (τ6.set i none) J6 s7 → Q s7) →
                wpAny (model X.prog X.w) X.A (do bindName X.env n .none; unbindBehindTheSuite X.env n hp) (fun _ s7 => Q s7) X.xe s6 := fun {τ6 J6 Q} i6 hq => gone_ok (i6.unsuite okX) hN hi hl hq
            cases fl with
            | next =>
              obtain ⟨τ6, J6, i6, q6⟩ := q6
              exact off i6 fun s7 i7 => ⟨_, _, i7, q6⟩
            | brk =>
              obtain ⟨τ6, J6, i6, q6⟩ := q6
              exact off i6 fun s7 i7 => ⟨_, _, i7, q6⟩
            | cont =>
              obtain ⟨τ6, J6, i6, q6⟩ := q6
              exact off i6 fun s7 i7 => ⟨_, _, i7, q6⟩
            | ret u =>
              obtain ⟨v6, τ6, J6, i6, r6, q6⟩ := q6
              exact off i6 fun s7 i7 => ⟨_, _, _, i7, r6, q6⟩
          · exact fun _ _ z => z.elim
    exact run_ hh wv
/-! ### .. over data -/
abbrev ClaD := Addr × Nat × (D → SvF)
inductive SuDs (X : Cx) (F : Fr) : List ExceptHandler → List ClaD → Prop
  | nil : SuDs X F [] []
  | cons {x n : Str} {C : Addr} {i : Nat} {g : D → SvF} {b₀ : Stmt} {su : List Stmt} {np hp : Pos} {hs : List ExceptHandler} {l : List ClaD} (hc : Names X x (.ref C)) (hi : X.N[i]? = some n) (hl : X.env.kindOf n = some .local)
      (te : PySem.W.exmOne X.K (.ref C) (.ref C) = some true) (hg : SuD X F C i (b₀ :: su) g) (hne : ∀ q ∈ l, PySem.W.exmOne X.K (.ref q.1) (.ref C) = some false) (r : SuDs X F hs l) :
      SuDs X F (.ExceptHandler (some (.Name x np)) (some n) (b₀ :: su) hp :: hs) ((C, i, g) :: l)
theorem SuDs.all {X : Cx} {F : Fr} {hs : List ExceptHandler} {l : List ClaD} (h : SuDs X F hs l) : ∃ cs : List Cla, ClaOk X hs cs ∧
    ∀ (σ : L2.St) (I H : Hp) (e : En) (ps : Tm) (dd : Addr) (x : V) (z : D) (d : Ed) (D : Ends) (q : ClaD), q ∈ l → Imms ps → ST F σ I H e ps → Rep F.K I x z → H dd = some (.xd [(("value" : Str), x)]) → q.2.2 z e d → EdR F ps d D →
      wAll X.K (fun _ _ _ _ => False) D cs (.ref q.1) (some dd) σ H := by
  induction h with
  | nil => exact ⟨[], .nil, fun σ I H e ps dd x z d D q m => by simp at m⟩
  | @cons x n C i g b₀ su np hp hs l hc hi hl te hg hne r ih =>
    obtain ⟨cs, ok, hw⟩ := ih
    obtain ⟨ts, hsu, hd⟩ := hg
    refine ⟨(.ref C, i, ts) :: cs, .cons hc hi hl hsu ok, fun σ I H e ps dd x' z d D q m hp s rx hx gz k => ?_⟩
    rcases List.mem_cons.mp m with rfl | m
    · exact ⟨true, te, fun _ a _ => hd σ I H e ps dd a x' z d D hp s rx hx gz k, fun z => nomatch z⟩
    · exact ⟨false, hne q m, (fun z => nomatch z), fun _ => hw σ I H e ps dd x' z d D q m hp s rx hx gz k⟩
def sTryAll (l : List ClaD) (f : Fr → SvF) : SvF := fun e d => ∀ F' : Fr, F'.PX = (fun C' z e' => ∃ q ∈ l, q.1 = C' ∧ q.2.2 z e' d) → f F' e d
theorem ds_tryAll {X : Cx} {F : Fr} {body : List Stmt} {h₁ : ExceptHandler} {hs : List ExceptHandler} {l : List ClaD} {pos : Pos} {f : Fr → SvF} (hst : X.stack = X.env :: X.outer) (hfr0 : X.env.frame = some X.env.locals) (hN : X.N.Nodup)
    (hb : ∀ (pn : List (Addr × Obj)) (xe : Value → Shared → Prop) (F' : Fr), F'.K = X.K → Takes (X.tr pn xe) F'.W → FrOk F' → DSs (X.tr pn xe) F' body (f F')) (hg : SuDs X F (h₁ :: hs) l) (hK : F.K = X.K := by first | rfl | assumption) :
    DS X F (.Try body (h₁ :: hs) [] [] pos) (sTryAll l f) := by
  obtain ⟨cs, ok, hw⟩ := hg.all
  let tb : WX → TS := fun W D σ H => ∃ (I : Hp) (e : En) (ps : Tm) (d : Ed) (F' : Fr), F'.K = X.K ∧ F'.W = W ∧ FrOk F' ∧ Imms ps ∧ ST F' σ I H e ps ∧ f F' e d ∧ EdR F' ps d D
  refine ⟨_, ps_try_all (tb := tb) (Wout := fun _ _ _ _ => False) hst hfr0 hN takes0 (fun W pn xe tk => ⟨fun pins s σ H D Iv h => ?_⟩) ok, fun σ I H e ps d D hp s h k => ?_⟩
  · obtain ⟨I, e, ps, d, F', hk, rfl, fo, im, st, hf', ed⟩ := h
    obtain ⟨t, p, dts⟩ := hb pn xe F' hk tk fo
    exact p.run pins s σ H D Iv (dts σ I H e ps d D im st hf' ed)
  · refine ⟨I, e, ps, d, frTry F.K e ps I H (wAll X.K (fun _ _ _ _ => False) D cs) (fun C' z e' => ∃ q ∈ l, q.1 = C' ∧ q.2.2 z e' d), hK, rfl, ?_, hp, s.here, h _ rfl, ?_⟩
    · rintro σ' I' H' e' qs C' z x' dd s' ⟨q, m, rfl, hz⟩ rx hx
      have s1 : ST F σ' I' H' e' [] := ST.weak (ps := []) (qs := qs) (s.rebase s')
      have s2 : ST F σ' I' H' e' ps := s1.imms fun p m => by
        obtain ⟨d', e1, r⟩ := s.imreps hp p m
        exact ⟨d', e1, r.mono s'.base.imm⟩
      exact hw σ' I' H' e' ps dd x' z d D q m hp s2 rx hx hz k
    · exact ⟨fun σ' I' H' e' h' s' => k.nx σ' I' H' e' h' (s.rebase s'), fun x r σ' I' H' e' h' s' => k.rt x r σ' I' H' e' h' (s.rebase s'), fun σ' I' H' e' h' s' => k.bk σ' I' H' e' h' (s.rebase s'), fun σ' I' H' e' h' s' => k.ct σ' I' H' e' h' (s.rebase s')⟩
theorem s_tryAll {l : List ClaD} {f : Fr → SvF} {e : En} {d : Ed} (k : ∀ F' : Fr, F'.PX = (fun C' z e' => ∃ q ∈ l, q.1 = C' ∧ q.2.2 z e' d) → f F' e d) : sTryAll l f e d := k
theorem ne_nil {K : PySem.W.Frag} {C : Addr} : ∀ q ∈ ([] : List ClaD), PySem.W.exmOne K (.ref q.1) (.ref C) = some false := fun q h => by simp at h
theorem ne_cons {K : PySem.W.Frag} {C C2 : Addr} {i : Nat} {g : D → SvF} {l : List ClaD} (h : PySem.W.exmOne K (.ref C2) (.ref C) = some false) (t : ∀ q ∈ l, PySem.W.exmOne K (.ref q.1) (.ref C) = some false) :
    ∀ q ∈ ((C2, i, g) :: l : List ClaD), PySem.W.exmOne K (.ref q.1) (.ref C) = some false := fun q m => by
  rcases List.mem_cons.mp m with rfl | m
  · exact h
  · exact t q m
theorem x_in0 {C : Addr} {i : Nat} {g : D → SvF} {l : List ClaD} {z : D} {e : En} {d : Ed} (k : g z e d) : ∃ q ∈ ((C, i, g) :: l : List ClaD), q.1 = C ∧ q.2.2 z e d := ⟨_, List.mem_cons_self, rfl, k⟩
theorem x_inS {C : Addr} {a : ClaD} {l : List ClaD} {z : D} {e : En} {d : Ed} (k : ∃ q ∈ l, q.1 = C ∧ q.2.2 z e d) : ∃ q ∈ (a :: l : List ClaD), q.1 = C ∧ q.2.2 z e d := by
  obtain ⟨q, m, h⟩ := k
  exact ⟨q, List.mem_cons_of_mem _ m, h⟩
/-! ### ways as a group -/
abbrev W3 := Bool × Bool × Bool
def wOf : W3 → Str
  | (true, true, true) => "anti"
  | (true, true, false) => "quarter"
  | (true, false, true) => "back"
  | (true, false, false) => "cross"
  | (false, true, true) => "half"
  | (false, true, false) => "mirror"
  | (false, false, true) => "flip"
  | (false, false, false) => "same"
def gmv : W3 → Int → Int → Int → Int → Int × Int
  | (s, f, g), w, h, x, y => if s then ((if f then 2 * h - y else y), (if g then 2 * w - x else x)) else ((if f then 2 * w - x else x), (if g then 2 * h - y else y))
def gcomp : W3 → W3 → W3
  | (s, f, g), (s2, f2, g2) => if s2 then (!s, f2 ^^ g, g2 ^^ f) else (s, f2 ^^ f, g2 ^^ g)
theorem swp_wOf (t : W3) : swp (wOf t) = t.1 := by
  obtain ⟨s, f, g⟩ := t
  cases s <;> cases f <;> cases g <;> decide +kernel
theorem wayOk_wOf (t : W3) : wayOk (wOf t) = true := by
  obtain ⟨s, f, g⟩ := t
  cases s <;> cases f <;> cases g <;> decide +kernel
theorem mvd_wOf (t : W3) (w h x y : Int) : mvd (wOf t) w h x y = gmv t w h x y := by
  obtain ⟨s, f, g⟩ := t
  cases s <;> cases f <;> cases g <;> rfl
theorem wOf_all {way : Str} (h : wayOk way = true) : ∃ t, way = wOf t := by
  have h2 : way ∈ (["same", "quarter", "half", "back", "flip", "mirror", "cross", "anti"] : List Str) := by
    rw [← List.contains_iff_mem, ← inV_strs]
    exact h
  simp only [List.mem_cons, List.not_mem_nil, or_false] at h2
  rcases h2 with h | h | h | h | h | h | h | h
  · exact ⟨(false, false, false), h⟩
  · exact ⟨(true, true, false), h⟩
  · exact ⟨(false, true, true), h⟩
  · exact ⟨(true, false, true), h⟩
  · exact ⟨(false, false, true), h⟩
  · exact ⟨(false, true, false), h⟩
  · exact ⟨(true, false, false), h⟩
  · exact ⟨(true, true, true), h⟩
theorem gcomp_fst (a b : W3) : (gcomp a b).1 = (a.1 ^^ b.1) := by
  obtain ⟨s, f, g⟩ := a
  obtain ⟨s2, f2, g2⟩ := b
  cases s2 <;> simp [gcomp]
theorem gmv_comp (a b : W3) (w h x y : Int) : gmv b (if a.1 then h else w) (if a.1 then w else h) (gmv a w h x y).1 (gmv a w h x y).2 = gmv (gcomp a b) w h x y := by
  obtain ⟨s, f, g⟩ := a
  obtain ⟨s2, f2, g2⟩ := b
  cases s <;> cases f <;> cases g <;> cases s2 <;> cases f2 <;> cases g2 <;> simp [gmv, gcomp] <;> omega
theorem gmv_one {a b : W3} {w h : Int} (hw : 1 ≤ w) (hh : 1 ≤ h) (e1 : gmv a w h 0 0 = gmv b w h 0 0) (e2 : gmv a w h (2 * w) 0 = gmv b w h (2 * w) 0) (e3 : gmv a w h 0 (2 * h) = gmv b w h 0 (2 * h)) : a = b := by
  obtain ⟨s, f, g⟩ := a
  obtain ⟨s2, f2, g2⟩ := b
  cases s <;> cases f <;> cases g <;> cases s2 <;> cases f2 <;> cases g2 <;> first
    | rfl
    | (exfalso; simp [gmv] at e1 e2 e3; omega)
theorem okK_twice {k : Str} (h : KindOk k) : okK (okK k) = k := by
  rcases h with h | h
  · rw [h]; decide +kernel
  · rw [h]; decide +kernel
theorem mvM_comp (a b : W3) (w h : Int) {m : Mir} (hk : KindOk m.2.2) : mvM (wOf b) (if a.1 then h else w) (if a.1 then w else h) (mvM (wOf a) w h m) = mvM (wOf (gcomp a b)) w h m := by
  unfold mvM
  simp only [swp_wOf, mvd_wOf, gmv_comp, gcomp_fst]
  obtain ⟨s, f, g⟩ := a
  obtain ⟨s2, f2, g2⟩ := b
  cases s <;> cases s2 <;> simp [okK_twice hk]
theorem mvM_map (a b : W3) (w h : Int) {ms : List Mir} (hk : ∀ m ∈ ms, KindOk m.2.2) : (ms.map (mvM (wOf a) w h)).map (mvM (wOf b) (if a.1 then h else w) (if a.1 then w else h)) = ms.map (mvM (wOf (gcomp a b)) w h) := by
  rw [List.map_map]
  exact List.map_congr_left fun m hm => mvM_comp a b w h (hk m hm)
theorem sizes_comp (a b : W3) (w h : Int) : (if b.1 then (if a.1 then w else h) else (if a.1 then h else w)) = (if (gcomp a b).1 then h else w) := by
  rw [gcomp_fst]
  cases a.1 <;> cases b.1 <;> rfl
theorem mvM_same {w h : Int} (m : Mir) : mvM (wOf (false, false, false)) w h m = m := by
  unfold mvM
  rw [swp_wOf, mvd_wOf]
  rfl
theorem good_at {w h : Int} {ms ns : List Mir} (g : GoodMs w h ms) (t : W3) (p : ns.Perm (ms.map (mvM (wOf t) w h))) : GoodMs (if t.1 then h else w) (if t.1 then w else h) ns := by
  have z := (g.moved (wOf t)).perm p
  rw [swp_wOf] at z
  exact z
theorem one_if {b : Bool} {w h : Int} (hw : 1 ≤ w) (hh : 1 ≤ h) : 1 ≤ (if b then h else w) := by cases b; exact hw; exact hh
theorem wOf_inj {t u : W3} (h : wOf t = wOf u) : t = u := by
  have e1 : ∀ x y, gmv t 1 1 x y = gmv u 1 1 x y := fun x y => by rw [← mvd_wOf, ← mvd_wOf, h]
  exact gmv_one (by decide) (by decide) (e1 _ _) (e1 _ _) (e1 _ _)
abbrev waysL : List Str := ["same", "quarter", "half", "back", "flip", "mirror", "cross", "anti"]
/-! ### the law's own turns -/
theorem look_val (ms : List Mir) (k : List Key) : (lookD (kvD ms) k).map (fun d => match d with | .str s => V.str s | _ => V.non) = valV (kvsOf ms) k := by
  unfold lookD valV kvD kvsOf
  induction ms with
  | nil => rfl
  | cons m ms ih =>
    rw [List.map_cons, List.map_cons, List.find?_cons, List.find?_cons]
    by_cases h : ptK (mK m) = k
    · simp [h]
    · simp only [h, decide_false]
      exact ih
theorem look_str {ms : List Mir} {k : List Key} {d : D} (h : lookD (kvD ms) k = some d) : ∃ m ∈ ms, d = .str m.2.2 := by
  unfold lookD kvD at h
  cases e : (ms.map fun m => (ptK (mK m), D.str m.2.2)).find? fun p => decide (p.1 = k) with
  | none => rw [e] at h; cases h
  | some q =>
    rw [e] at h
    cases h
    obtain ⟨m, hm, rfl⟩ := List.mem_map.mp (List.mem_of_find?_eq_some e)
    exact ⟨m, hm, rfl⟩
theorem look_perm {ms ns : List Mir} (p : ns.Perm ms) (nd : (ms.map mK).Nodup) (z : Int × Int) : lookD (kvD ns) (ptK z) = lookD (kvD ms) (ptK z) := by
  have a := look_val ns (ptK z)
  have b := look_val ms (ptK z)
  have nd' : (ns.map mK).Nodup := ((p.map mK).nodup_iff).mpr nd
  have c : valV (kvsOf ns) (ptK z) = valV (kvsOf ms) (ptK z) := by
    by_cases h : z ∈ ms.map mK
    · obtain ⟨m, hm, rfl⟩ := List.mem_map.mp h
      rw [kvs_get nd hm, kvs_get nd' (p.mem_iff.mpr hm)]
    · have h' : z ∉ ns.map mK := fun q => h ((p.map mK).mem_iff.mp q)
      rw [kvs_find.mpr h, kvs_find.mpr h']
  rw [c, ← b] at a
  cases x : lookD (kvD ns) (ptK z) with
  | none =>
    rw [x] at a
    cases y : lookD (kvD ms) (ptK z) with
    | none => rfl
    | some d' => rw [y] at a; cases a
  | some d =>
    rw [x] at a
    cases y : lookD (kvD ms) (ptK z) with
    | none => rw [y] at a; cases a
    | some d' =>
      rw [y] at a
      obtain ⟨m, _, rfl⟩ := look_str x
      obtain ⟨m', _, rfl⟩ := look_str y
      injection a with a
      injection a with a
      rw [a]
/-- the kind at a place, by a list that was filtered -/
def atB (x y : Int) (m : Mir) : Bool := decide (m.1 = x ∧ m.2.1 = y)
theorem here_D {x y : Int} : ∀ ns : List Mir, ∃ r, (ns.filter (atB x y)).map (fun m => D.str m.2.2) ++ [D.non] = kindD ns x y :: r
  | [] => ⟨[], rfl⟩
  | m :: ns => by
    by_cases h : m.1 = x ∧ m.2.1 = y
    · refine ⟨(ns.filter (atB x y)).map (fun m => D.str m.2.2) ++ [.non], ?_⟩
      rw [List.filter_cons_of_pos (show atB x y m = true from decide_eq_true h)]
      have e : kindD (m :: ns) x y = .str m.2.2 := by
        unfold kindD lookD kvD
        rw [List.map_cons, List.find?_cons, show ptK (mK m) = ptK (x, y) by rw [← h.1, ← h.2]]
        simp
      rw [e]
      rfl
    · obtain ⟨r, e⟩ := here_D (x := x) (y := y) ns
      refine ⟨r, ?_⟩
      rw [List.filter_cons_of_neg (show ¬ atB x y m = true from fun q => h (of_decide_eq_true q)), e]
      have e2 : kindD (m :: ns) x y = kindD ns x y := by
        unfold kindD lookD kvD
        rw [List.map_cons, List.find?_cons]
        have ne : ¬ ptK (mK m) = ptK (x, y) := fun q => h (by
          have q' : [(Sum.inl m.1 : Key), Sum.inl m.2.1] = [Sum.inl x, Sum.inl y] := q
          injection q' with q1 q'
          injection q' with q2 _
          injection q1 with q1
          injection q2 with q2
          exact ⟨q1, q2⟩)
        simp only [ne, decide_false]
      rw [e2]
theorem swp_eq (way : Str) : swp way = (["quarter", "back", "cross", "anti"] : List Str).contains way := inV_strs way ["quarter", "back", "cross", "anti"]
theorem mirs_ok {n : Nat} {ms : List Mir} (hk : ∀ m ∈ ms, KindOk m.2.2) (hz : ms.length ≤ 1000000) : okD (2 + n) (toPy (mirsD ms)) = true := by
  have e : toPy (mirsD ms) = .list (ms.map mD) := by
    show PyData.list (toPys (ms.map mirD)) = _
    rw [toPys_mirs]
  rw [e]
  exact okD_le (mDs_ok hk hz) n
theorem kind_ok {w h : Int} {ms : List Mir} (g : GoodMs w h ms) (x y : Int) : okD 0 (toPy (kindD ms x y)) = true := by
  unfold kindD
  cases e : lookD (kvD ms) (ptK (x, y)) with
  | none => rfl
  | some d =>
    obtain ⟨m, hm, rfl⟩ := look_str e
    show okD 0 (.str m.2.2) = true
    rcases g.kind m hm with k | k
    · rw [k]; decide +kernel
    · rw [k]; decide +kernel
theorem cut_mem {α : Type} {l : List α} {lo hi : Option Int} {x : α} (h : x ∈ cutL l lo hi) : x ∈ l := by
  unfold cutL at h
  exact List.mem_of_mem_drop (List.mem_of_mem_take h)
theorem cut_len {α : Type} {l : List α} {lo hi : Option Int} : (cutL l lo hi).length ≤ l.length := by
  unfold cutL
  rw [List.length_take, List.length_drop]
  omega
def conMoveL : Con := fun es P _ => ∃ (way : Str) (w h x y : Int), es = [.imm (.str way), .int w, .int h, .int x, .int y] ∧ P (.imm (ptOf (mvd way w h x y))) es
def conTurnL : Con := fun es P _ => ∃ (way : Str) (w h : Int) (ms : List Mir), es = [.imm (.str way), .int w, .int h, .imm (mirsD ms)] ∧ (∀ m ∈ ms, KindOk m.2.2) ∧ ms.length ≤ 500 ∧
  ∀ ns : List Mir, ns.Perm (ms.map (mvM way w h)) → ns.Pairwise Mle → P (.imm (.tup [.int (if swp way then h else w), .int (if swp way then w else h), mirsD ns])) es
def conIs (A : Ad) : Con := fun es P _ => ∃ (w h : Int) (ms ns : List Mir), es = [.imm (brdD A.C_Board w h ms), .imm (.tup [.int w, .int h, mirsD ns])] ∧ GoodMs w h ms ∧ 1 ≤ w ∧ 1 ≤ h ∧ ms.length ≤ 400 ∧ ns.Perm ms ∧ ns.Pairwise Mle ∧ P (.imm (.bl true)) es
section
variable {P : Program} {w : World} {K : PySem.W.Frag} {mg : Str → Option Value} {base : Heap} {A : Ad}
end

section
local macro_rules | `(tactic| walk_at "al") => `(tactic| first
  | omega
  | exact Or.inl (Or.inl ⟨by omega, by omega⟩)
  | exact Or.inl (Or.inr ⟨by omega, by omega⟩)
  | exact ⟨by omega, Or.inl (by omega)⟩
  | exact ⟨by omega, by omega, by omega, by omega⟩
  | exact ⟨by decide, by decide, by decide⟩)
local macro_rules | `(tactic| walk_at "bk") => `(tactic| repeat (first | exact BackE.nil | apply BackE.imm | apply BackE.own | apply BackE.hand))
local macro_rules | `(tactic| walk_at "ds1") => `(tactic| first
  | ((with_reducible refine' s_vi ?ee_ ?_); (case ee_ => rfl))
  | ((with_reducible refine' s_vs ?ee_ ?_); (case ee_ => rfl))
  | with_reducible refine s_c ?_
  | with_reducible refine s_aN ?_
  | with_reducible refine s_aC ?_
  | with_reducible refine s_op ?_
  | ((with_reducible refine' x_val2 ?ee_ ?ff_ ?_); (case ee_ => rfl); (case ff_ => rfl))
  | ((with_reducible refine' x_bl ?ee_ ?_); (case ee_ => rfl))
  | ((with_reducible refine' x_int ?ee_ ?_); (case ee_ => rfl))
  | ((with_reducible refine' x_val ?ee_ ?_); (case ee_ => rfl))
  | ((with_reducible refine' x_vals ?ee_ ?_); (case ee_ => rfl))
  | ((with_reducible refine' x_frzs ?ee_ ?ll_ ?_); (case ee_ => rfl); (case ll_ => rfl))
  | ((with_reducible refine' x_frzO ?ee_ ?_); (case ee_ => rfl))
  | ((with_reducible refine' x_frz2 ?ee_ ?ff_ ?_); (case ee_ => rfl); (case ff_ => rfl))
  | ((with_reducible refine' x_frz ?ee_ ?_); (case ee_ => rfl))
  | ((with_reducible refine' x_asg ?ee_ ?_); (case ee_ => rfl))
  | with_reducible refine o_addI ?_
  | with_reducible refine o_subI ?_
  | ((with_reducible refine' o_mulI ?cc_ ?_); (case cc_ => walk_at "al"))
  | ((with_reducible refine' o_divI ?cc_ ?_); (case cc_ => walk_at "al"))
  | ((with_reducible refine' o_modI ?cc_ ?_); (case cc_ => walk_at "al"))
  | ((with_reducible refine' o_powI ?cc_ ?_); (case cc_ => walk_at "al"))
  | with_reducible refine o_andI ?_
  | with_reducible refine o_ltI ?_
  | with_reducible refine o_leI ?_
  | with_reducible refine o_gtI ?_
  | with_reducible refine o_geI ?_
  | with_reducible refine o_eqI ?_
  | with_reducible refine o_eqS ?_
  | with_reducible refine o_eqP ?_
  | with_reducible refine o_neI ?_
  | with_reducible refine o_neS ?_
  | with_reducible refine o_isN' ?_
  | with_reducible refine o_isB' ?_
  | with_reducible refine o_notN' ?_
  | ((with_reducible refine' o_ixT ?ee_ ?ff_ ?_); (case ee_ => first | rfl | assumption); (case ff_ => first | rfl | assumption))
  | ((with_reducible refine' o_ixL ?ee_ ?ff_ ?_); (case ee_ => first | rfl | assumption); (case ff_ => first | rfl | assumption))
  | with_reducible refine o_slL ?_
  | with_reducible refine o_slT ?_
  | with_reducible refine s_dnT ?_
  | with_reducible refine s_dnK ?_
  | with_reducible refine o_neP ?_
  | with_reducible refine o_neC ?_
  | ((with_reducible refine' o_fld ?ee_ ?_); (case ee_ => rfl))
  | with_reducible refine o_lenL ?_
  | with_reducible refine o_lenT ?_
  | with_reducible refine o_lenF ?_
  | with_reducible refine o_lenD ?_
  | with_reducible refine o_int ?_
  | with_reducible refine o_abs ?_
  | with_reducible refine o_max ?_
  | with_reducible refine o_min ?_
  | with_reducible refine o_list ?_
  | ((with_reducible refine' o_inT ?ee_ ?_); (case ee_ => rfl))
  | ((with_reducible refine' o_ninT ?ee_ ?_); (case ee_ => rfl))
  | with_reducible refine o_neg ?_
  | ((with_reducible refine' o_inF ?ee_ ?_); (case ee_ => rfl))
  | ((with_reducible refine' o_ninF ?ee_ ?_); (case ee_ => rfl))
  | with_reducible refine s_tup ?_
  | with_reducible refine s_lst ?_
  | with_reducible refine s_un ?_
  | with_reducible refine s_cl ?_
  | with_reducible refine s_test ?_
  | with_reducible refine s_and ?_
  | with_reducible refine s_or ?_
  | with_reducible refine s_not ?_
  | with_reducible refine s_andV ?_
  | with_reducible refine s_orV ?_
  | with_reducible refine s_notV ?_
  | with_reducible refine s_ifV ?_
  | with_reducible refine s_chain ?_
  | with_reducible refine x_ib ?_
  | with_reducible refine s_pN ?_
  | with_reducible refine s_pS ?_
  | with_reducible refine s_sl ?_
  | with_reducible refine s_sameL ?_
  | with_reducible refine o_isNB ?_
  | with_reducible refine s_fz ?_
  | with_reducible refine o_ixH ?_
  | ((with_reducible refine' x_noa ?ee_ ?_); (case ee_ => rfl))
  | ((with_reducible refine' x_lenN ?ee_ ?ff_ ?_); (case ee_ => omega); (case ff_ => omega))
  | ((with_reducible refine' x_le1000 ?ee_ ?_); (case ee_ => rfl))
  | with_reducible refine s_call ?_
  | ((with_reducible refine' x_con ?ee_ ?ff_ ?_); (case ee_ => rfl); (case ff_ => rfl))
  | ((with_reducible refine' s_callD ?ee_ ?ff_ ?_); (case ee_ => rfl); (case ff_ => rfl))
  | ((with_reducible refine' x_back ?ll_ ?ee_ ?_); (case ll_ => rfl); (case ee_ => rfl))
  | ((with_reducible refine' x_back1 ?ee_ ?_); (case ee_ => rfl))
  | with_reducible refine s_gaN ?_
  | with_reducible refine s_gaV ?_
  | ((with_reducible refine' s_gaR ?ee_ ?_); (case ee_ => rfl))
  | with_reducible refine s_meth ?_
  | with_reducible refine s_meth0 ?_
  | with_reducible refine s_methK ?_
  | with_reducible refine s_makeK ?_
  | ((with_reducible refine' x_frzsK ?ee_ ?ll_ ?_); (case ee_ => rfl); (case ll_ => rfl))
  | with_reducible refine s_prop ?_
  | with_reducible refine s_make ?_
  | with_reducible refine s_own2 ?_
  | with_reducible refine s_eqX ?_
  | with_reducible refine s_neX ?_
  | with_reducible refine s_rev ?_
  | with_reducible refine x_nb ?_
  | ((with_reducible refine' x_rev ?ee_ ?ff_ ?_); (case ee_ => rfl); (case ff_ => rfl))
  | with_reducible refine s_lenO ?_
  | ((with_reducible refine' s_mut ?ee_ ?_); (case ee_ => rfl))
  | ((with_reducible refine' x_mut ?ee_ ?ff_ ?_); (case ee_ => rfl); (case ff_ => rfl))
  | ((with_reducible refine' s_mut0 ?ee_ ?_); (case ee_ => rfl))
  | with_reducible refine m_clr ?_
  | with_reducible refine m_rev ?_
  | with_reducible refine s_dget ?_
  | with_reducible refine s_dget1 ?_
  | with_reducible refine s_dget2 ?_
  | ((with_reducible refine' x_isT ?ee_ ?_); (case ee_ => rfl))
  | ((with_reducible refine' x_isK ?ee_ ?_); (case ee_ => rfl))
  | ((with_reducible refine' x_get2 ?ee_ ?ff_ ?gg_ ?_); (case ee_ => rfl); (case ff_ => rfl); (case gg_ => rfl))
  | with_reducible refine s_din ?_
  | with_reducible refine s_dnin ?_
  | ((with_reducible refine' s_lookT ?ee_ ?_); (case ee_ => rfl))
  | ((with_reducible refine' s_lookK ?ee_ ?_); (case ee_ => rfl))
  | with_reducible refine s_seq ?_
  | with_reducible refine s_set ?_
  | with_reducible refine s_ret ?_
  | with_reducible refine s_retN ?_
  | with_reducible refine s_if ?_
  | with_reducible refine s_next ?_
  | with_reducible refine s_drop ?_
  | with_reducible refine s_brk ?_
  | with_reducible refine s_cnt ?_
  | with_reducible refine s_asg ?_
  | with_reducible refine s_raise ?_
  | with_reducible refine s_setIx ?_
  | ((with_reducible refine' s_gN ?ee_ ?_); (case ee_ => rfl))
  | with_reducible refine s_gNl ?_
  | with_reducible refine s_gCn ?_
  | ((with_reducible refine' s_gT ?ee_ ?_); (case ee_ => rfl))
  | ((with_reducible refine' s_gL ?ee_ ?_); (case ee_ => rfl))
  | with_reducible refine s_for ?_
  | with_reducible refine s_wSeq ?_
  | ((with_reducible refine' x_items ?ee_ ?ff_ ?_); (case ee_ => rfl); (case ff_ => rfl))
  | with_reducible refine s_rng1 ?_
  | ((with_reducible refine' x_rng1 ?ee_ ?aa_ ?bb_ ?_); (case ee_ => rfl); (case aa_ => omega); (case bb_ => omega))
  | with_reducible refine s_rng2 ?_
  | ((with_reducible refine' x_rng2 ?ee_ ?aa_ ?_); (case ee_ => rfl); (case aa_ => exact ⟨by omega, by omega, by omega, by omega⟩))
  | with_reducible refine s_enum ?_
  | ((with_reducible refine' x_enum ?ee_ ?_); (case ee_ => rfl))
  | with_reducible refine s_lc ?_
  | with_reducible refine s_lcG ?_
  | ((with_reducible refine' s_lcV ?ee_ ?ff_ ?_); (case ee_ => rfl); (case ff_ => rfl))
  | ((with_reducible refine' s_forV ?ee_ ?_); (case ee_ => rfl))
  | ((with_reducible refine' x_clear ?ee_ ?_); (case ee_ => rfl))
  | with_reducible refine s_yes ?_
  | ((with_reducible refine' s_end ?ee_ ?bb_ ?_); (case ee_ => rfl); (case bb_ => walk_at "bk"))
  | ((with_reducible refine' x_pxT ?ee_ ?_); (case ee_ => assumption))
  | with_reducible refine x_got rfl ?_
  | with_reducible refine x_in0 ?_
  | with_reducible refine x_inS ?_
  | ((with_reducible refine' s_gVal ?ee_ ?_); (case ee_ => rfl))
  | ((with_reducible refine' s_gTag ?ee_ ?_); (case ee_ => rfl))
  | ((with_reducible refine' x_px ?bb_ ?_); (case bb_ => walk_at "bk"))
  | ((with_reducible refine' s_endN ?bb_ ?_); (case bb_ => walk_at "bk"))
  | with_reducible refine iteT ?_
  | with_reducible refine iteF ?_
  | with_reducible refine r_iteNf ?_
  | with_reducible refine r_iteNt ?_)
local macro_rules | `(tactic| walk_at "ds") => `(tactic| (repeat' (walk_at "ds1")))
set_option hygiene false in
local macro_rules | `(tactic| walk_at "dx") => `(tactic| (repeat' (first | walk_at "ds1" | with_reducible refine (fun (a : Addr) => ?_ : ∀ _ : Addr, _) | with_reducible refine ite_d (fun c => ?_) (fun c => ?_) | with_reducible refine ite_nd (fun c => ?_) (fun c => ?_) | with_reducible refine ite_nb (fun c => ?_) (fun c => ?_) | with_reducible refine ite_b (fun c => ?_) (fun c => ?_))))
set_option hygiene false in
local macro_rules | `(tactic| walk_at "dy") => `(tactic| (repeat' (first | walk_at "ds1" | with_reducible refine (fun (a : Addr) => ?_ : ∀ _ : Addr, _))))
/-! ### boards changed and joined, over data -/
def shX (d : Int) (m : Mir) : Mir := (m.1 + d, m.2.1, m.2.2)
def shY (d : Int) (m : Mir) : Mir := (m.1, m.2.1 + d, m.2.2)
def conCheck (A : Ad) : Con := fun es P PX => ∃ (w h : Int) (ms : List Mir) (z : Mir), es = [.int w, .int h, .imm (.dic (kvD ms)), .imm (mirD z)] ∧
  ((¬ Ins w h z.1 z.2.1 → PX A.C_InvalidPoint (plD z.1 z.2.1) es) ∧ (Ins w h z.1 z.2.1 → ¬ KindOk z.2.2 → PX A.C_InvalidMirror (.str z.2.2) es) ∧ (Ins w h z.1 z.2.1 → KindOk z.2.2 → mK z ∈ ms.map mK → PX A.C_Taken (plD z.1 z.2.1) es) ∧
   (Ins w h z.1 z.2.1 → KindOk z.2.2 → mK z ∉ ms.map mK → P (.imm .non) es))
def conWith (A : Ad) : Con := fun es P PX => ∃ (w h : Int) (ms : List Mir) (x y : Int) (k : Str), es = [.imm (brdD A.C_Board w h ms), .int x, .int y, .imm (.str k)] ∧ GoodMs w h ms ∧ 1 ≤ w ∧ 1 ≤ h ∧ ms.length ≤ 490 ∧
  ((¬ Ins w h x y → PX A.C_InvalidPoint (plD x y) es) ∧ (Ins w h x y → ¬ KindOk k → PX A.C_InvalidMirror (.str k) es) ∧ (Ins w h x y → KindOk k → (x, y) ∈ ms.map mK → PX A.C_Taken (plD x y) es) ∧
   (Ins w h x y → KindOk k → (x, y) ∉ ms.map mK → ∀ ns : List Mir, ns.Perm (ms ++ [(x, y, k)]) → P (.imm (brdD A.C_Board w h ns)) es))
def conWithout (A : Ad) : Con := fun es P PX => ∃ (w h : Int) (ms : List Mir) (x y : Int), es = [.imm (brdD A.C_Board w h ms), .int x, .int y] ∧ GoodMs w h ms ∧ 1 ≤ w ∧ 1 ≤ h ∧ ms.length ≤ 490 ∧
  ((x, y) ∉ ms.map mK → PX A.C_NoMirror (plD x y) es) ∧ ((x, y) ∈ ms.map mK → ∀ ns : List Mir, ns.Perm (ms.filter fun m => !atB x y m) → P (.imm (brdD A.C_Board w h ns)) es)
def conAdd (A : Ad) : Con := fun es P PX => ∃ (w h : Int) (ms : List Mir) (w2 h2 : Int) (ns : List Mir), es = [.imm (brdD A.C_Board w h ms), .imm (brdD A.C_Board w2 h2 ns)] ∧ GoodMs w h ms ∧ 1 ≤ w ∧ 1 ≤ h ∧ ms.length ≤ 240 ∧ GoodMs w2 h2 ns ∧ 1 ≤ w2 ∧ 1 ≤ h2 ∧ ns.length ≤ 240 ∧
  (h2 ≠ h → PX A.C_InvalidSize (.int h2) es) ∧ (h2 = h → ∀ rs : List Mir, rs.Perm (ms ++ ns.map (shX (2 * w))) → P (.imm (brdD A.C_Board (w + w2) h rs)) es)
def conAbove (A : Ad) : Con := fun es P PX => ∃ (w h : Int) (ms : List Mir) (w2 h2 : Int) (ns : List Mir), es = [.imm (brdD A.C_Board w h ms), .imm (brdD A.C_Board w2 h2 ns)] ∧ GoodMs w h ms ∧ 1 ≤ w ∧ 1 ≤ h ∧ ms.length ≤ 240 ∧ GoodMs w2 h2 ns ∧ 1 ≤ w2 ∧ 1 ≤ h2 ∧ ns.length ≤ 240 ∧
  (w2 ≠ w → PX A.C_InvalidSize (.int w2) es) ∧ (w2 = w → ∀ rs : List Mir, rs.Perm (ms ++ ns.map (shY (2 * h))) → P (.imm (brdD A.C_Board w (h + h2) rs)) es)
theorem nodup_app {α : Type} {l r : List α} (a : l.Nodup) (b : r.Nodup) (d : ∀ x ∈ l, x ∉ r) : (l ++ r).Nodup := by
  rw [List.nodup_append]
  exact ⟨a, b, fun x hx y hy e => d x hx (e ▸ hy)⟩
theorem GoodMs.snoc {w h : Int} {ms : List Mir} (g : GoodMs w h ms) {x y : Int} {k : Str} (i : Ins w h x y) (ko : KindOk k) (n : (x, y) ∉ ms.map mK) : GoodMs w h (ms ++ [(x, y, k)]) := by
  refine ⟨fun m hm => ?_, fun m hm => ?_, ?_⟩
  · rcases List.mem_append.mp hm with z | z
    · exact g.ins m z
    · rw [List.mem_singleton] at z; subst z; exact i
  · rcases List.mem_append.mp hm with z | z
    · exact g.kind m z
    · rw [List.mem_singleton] at z; subst z; exact ko
  · rw [List.map_append]
    refine nodup_app g.nd (by simp) fun z hz q => ?_
    simp at q
    subst q
    exact n hz
theorem GoodMs.filt {w h : Int} {ms : List Mir} (g : GoodMs w h ms) (f : Mir → Bool) : GoodMs w h (ms.filter f) :=
  ⟨fun m hm => g.ins m (List.mem_filter.mp hm).1, fun m hm => g.kind m (List.mem_filter.mp hm).1, g.nd.sublist (List.filter_sublist.map mK)⟩
theorem GoodMs.joinX {w h w2 : Int} {ms ns : List Mir} (g : GoodMs w h ms) (g2 : GoodMs w2 h ns) (hw : 1 ≤ w) (hw2 : 1 ≤ w2) : GoodMs (w + w2) h (ms ++ ns.map (shX (2 * w))) := by
  refine ⟨fun m hm => ?_, fun m hm => ?_, ?_⟩
  · rcases List.mem_append.mp hm with z | z
    · have q := g.ins m z
      unfold Ins at q ⊢
      omega
    · obtain ⟨n, hn, rfl⟩ := List.mem_map.mp z
      have q := g2.ins n hn
      unfold Ins shX at *
      dsimp only
      omega
  · rcases List.mem_append.mp hm with z | z
    · exact g.kind m z
    · obtain ⟨n, hn, rfl⟩ := List.mem_map.mp z
      exact g2.kind n hn
  · rw [List.map_append]
    refine nodup_app g.nd ?_ fun z hz q => ?_
    · rw [List.map_map]
      have e : mK ∘ shX (2 * w) = (fun z : Int × Int => (z.1 + 2 * w, z.2)) ∘ mK := rfl
      rw [e, ← List.map_map]
      exact List.Pairwise.map _ (fun a b hab heq => hab (Prod.ext (by have := congrArg Prod.fst heq; dsimp only at this; omega) (by have := congrArg Prod.snd heq; dsimp only at this; omega))) g2.nd
    · obtain ⟨m, hm, rfl⟩ := List.mem_map.mp hz
      obtain ⟨m', hm', e⟩ := List.mem_map.mp q
      obtain ⟨m'', hm'', rfl⟩ := List.mem_map.mp hm'
      have q1 := g.ins m hm
      have q2 := g2.ins m'' hm''
      have e1 := congrArg Prod.fst e
      unfold Ins at q1 q2
      unfold mK shX at e1
      dsimp only at e1
      omega
theorem GoodMs.joinY {w h h2 : Int} {ms ns : List Mir} (g : GoodMs w h ms) (g2 : GoodMs w h2 ns) (hh : 1 ≤ h) (hh2 : 1 ≤ h2) : GoodMs w (h + h2) (ms ++ ns.map (shY (2 * h))) := by
  refine ⟨fun m hm => ?_, fun m hm => ?_, ?_⟩
  · rcases List.mem_append.mp hm with z | z
    · have q := g.ins m z
      unfold Ins at q ⊢
      omega
    · obtain ⟨n, hn, rfl⟩ := List.mem_map.mp z
      have q := g2.ins n hn
      unfold Ins shY at *
      dsimp only
      omega
  · rcases List.mem_append.mp hm with z | z
    · exact g.kind m z
    · obtain ⟨n, hn, rfl⟩ := List.mem_map.mp z
      exact g2.kind n hn
  · rw [List.map_append]
    refine nodup_app g.nd ?_ fun z hz q => ?_
    · rw [List.map_map]
      have e : mK ∘ shY (2 * h) = (fun z : Int × Int => (z.1, z.2 + 2 * h)) ∘ mK := rfl
      rw [e, ← List.map_map]
      exact List.Pairwise.map _ (fun a b hab heq => hab (Prod.ext (by have := congrArg Prod.fst heq; dsimp only at this; omega) (by have := congrArg Prod.snd heq; dsimp only at this; omega))) g2.nd
    · obtain ⟨m, hm, rfl⟩ := List.mem_map.mp hz
      obtain ⟨m', hm', e⟩ := List.mem_map.mp q
      obtain ⟨m'', hm'', rfl⟩ := List.mem_map.mp hm'
      have q1 := g.ins m hm
      have q2 := g2.ins m'' hm''
      have e1 := congrArg Prod.snd e
      unfold Ins at q1 q2
      unfold mK shY at e1
      dsimp only at e1
      omega
theorem kinds_iff (k : Str) : (["-", "|"] : List Str).contains k = true ↔ KindOk k := by
  rw [List.contains_iff_mem]
  simp [KindOk]
theorem look_iff (ms : List Mir) (z : Int × Int) : (lookD (kvD ms) (ptK z)).isSome = true ↔ z ∈ ms.map mK := by
  have a := look_val ms (ptK z)
  have b := @kvs_find ms z
  constructor
  · intro h
    refine Classical.byContradiction fun n => ?_
    rw [b.mpr n] at a
    cases q : lookD (kvD ms) (ptK z) with
    | none => rw [q] at h; cases h
    | some d => rw [q] at a; cases a
  · intro h
    cases q : lookD (kvD ms) (ptK z) with
    | some d => rfl
    | none =>
      rw [q] at a
      exact absurd h (b.mp a.symm)
section
variable {P : Program} {w : World} {K : PySem.W.Frag} {mg : Str → Option Value} {base : Heap} {A : Ad}
theorem okd_check_mirror (T : Txt K mg A) : FnOk P w K mg base (L2.CX P w) (2 + 1) A.f_check_mirror A.d_check_mirror P_check_mirror (spD K (conCheck A)) := by
  have G_is_inside := okd_is_inside (P := P) (w := w) (base := base) T
  have G_SandError___init__ := okd_SandError___init__ (P := P) (w := w) (base := base) T
  refine okD_fn T.F_check_mirror sc_check_mirror (fun es P PX h => ?_) (fun cdv A' outer s H I E es R PX hr fo hc => ?_)
  · obtain ⟨w', h', ms, z, rfl, _⟩ := h
    rfl
  obtain ⟨w', h', ms, z, rfl, h1, h2, h3, hP⟩ := hc
  have hu := hu_of hr
  refine ⟨_, (dss_cons (ds_asg (dv 3) (dg_tup (n := 3) rfl (dgs_cons (dg_name (i := 4) sc_check_mirror.nd rfl (Or.inl rfl)) (dgs_cons (dg_name (i := 5) sc_check_mirror.nd rfl (Or.inl rfl)) (dgs_cons (dg_name (i := 6) sc_check_mirror.nd rfl (Or.inl rfl)) dgs_nil)))))
(dss_cons (ds_if (dt_not (dt_val (de_call G_is_inside (hr.mono (by first | decide | omega)) rfl T.g_is_inside T.k_is_inside T.b_is_inside (takes_of rfl rfl rfl rfl) fo (dg_v (dv 0) (dg_v (dv 1) (dg_v (dv 4) (dg_v (dv 5) dg_nil)))))))
(dss_one (ds_raise rfl (takes_of rfl rfl rfl rfl) fo T.X_InvalidPoint T.i_InvalidPoint T.ti_init T.no_InvalidPoint G_SandError___init__ (hr.mono (by first | decide | omega)) T.b_SandError___init__ rfl T.g_InvalidPoint (de_tup (da_cons (dv 4) (da_cons (dv 5) da_nil)))))
dss_nil)
(dss_cons (ds_if (dt_cmp (dor_nin (hu65_of hr)) (dv 6) (de_con (xs := [V.str "-", V.str "|"]) (ds := [D.str "-", D.str "|"]) rfl T.g_KINDS T.q_KINDS (fun I => reps_strs ["-", "|"])) (by rfl))
(dss_one (ds_raise rfl (takes_of rfl rfl rfl rfl) fo T.X_InvalidMirror T.i_InvalidMirror T.ti_init T.no_InvalidMirror G_SandError___init__ (hr.mono (by first | decide | omega)) T.b_SandError___init__ rfl T.g_InvalidMirror (dv 6)))
dss_nil)
(dss_one (ds_if (dt_din hu (de_tup (da_cons (dv 4) (da_cons (dv 5) da_nil))) (dv 2))
(dss_one (ds_raise rfl (takes_of rfl rfl rfl rfl) fo T.X_Taken T.i_Taken T.ti_init T.no_Taken G_SandError___init__ (hr.mono (by first | decide | omega)) T.b_SandError___init__ rfl T.g_Taken (de_tup (da_cons (dv 4) (da_cons (dv 5) da_nil)))))
dss_nil))))), ?_⟩
  walk_at "dy"
  refine ⟨_, _, _, _, rfl, fun b hb => ?_⟩
  walk_at "dx"
  · exact h1 fun i => by
      rw [hb.mpr i] at c
      cases c
  · rename_i c1
    have c' : (["-", "|"] : List Str).contains z.2.2 = false := c
    exact h2 (hb.mp c1) fun q => by
      rw [(kinds_iff _).mpr q] at c'
      cases c'
  · rename_i c1 c2
    have c' : (lookD (kvD ms) (ptK (mK z))).isSome = true := c
    exact h3 (hb.mp c1) ((kinds_iff _).mp c2) ((look_iff ms _).mp c')
  · rename_i c1 c2
    have c' : (lookD (kvD ms) (ptK (mK z))).isSome = false := c
    exact hP (hb.mp c1) ((kinds_iff _).mp c2) fun q => by
      rw [(look_iff ms _).mpr q] at c'
      cases c'
end

end

section
local macro_rules | `(tactic| walk_at "al") => `(tactic| first
  | omega
  | exact Or.inl (Or.inl ⟨by omega, by omega⟩)
  | exact Or.inl (Or.inr ⟨by omega, by omega⟩)
  | exact ⟨by omega, Or.inl (by omega)⟩
  | exact ⟨by omega, by omega, by omega, by omega⟩
  | exact ⟨by decide, by decide, by decide⟩)
local macro_rules | `(tactic| walk_at "bk") => `(tactic| repeat (first | exact BackE.nil | apply BackE.imm | apply BackE.own | apply BackE.hand))
local macro_rules | `(tactic| walk_at "ds1") => `(tactic| first
  | ((with_reducible refine' s_vi ?ee_ ?_); (case ee_ => rfl))
  | ((with_reducible refine' s_vs ?ee_ ?_); (case ee_ => rfl))
  | with_reducible refine s_c ?_
  | with_reducible refine s_aN ?_
  | with_reducible refine s_aC ?_
  | with_reducible refine s_op ?_
  | ((with_reducible refine' x_val2 ?ee_ ?ff_ ?_); (case ee_ => rfl); (case ff_ => rfl))
  | ((with_reducible refine' x_bl ?ee_ ?_); (case ee_ => rfl))
  | ((with_reducible refine' x_int ?ee_ ?_); (case ee_ => rfl))
  | ((with_reducible refine' x_val ?ee_ ?_); (case ee_ => rfl))
  | ((with_reducible refine' x_vals ?ee_ ?_); (case ee_ => rfl))
  | ((with_reducible refine' x_frzs ?ee_ ?ll_ ?_); (case ee_ => rfl); (case ll_ => rfl))
  | ((with_reducible refine' x_frzO ?ee_ ?_); (case ee_ => rfl))
  | ((with_reducible refine' x_frz2 ?ee_ ?ff_ ?_); (case ee_ => rfl); (case ff_ => rfl))
  | ((with_reducible refine' x_frz ?ee_ ?_); (case ee_ => rfl))
  | ((with_reducible refine' x_asg ?ee_ ?_); (case ee_ => rfl))
  | with_reducible refine o_addI ?_
  | with_reducible refine o_subI ?_
  | ((with_reducible refine' o_mulI ?cc_ ?_); (case cc_ => walk_at "al"))
  | ((with_reducible refine' o_divI ?cc_ ?_); (case cc_ => walk_at "al"))
  | ((with_reducible refine' o_modI ?cc_ ?_); (case cc_ => walk_at "al"))
  | ((with_reducible refine' o_powI ?cc_ ?_); (case cc_ => walk_at "al"))
  | with_reducible refine o_andI ?_
  | with_reducible refine o_ltI ?_
  | with_reducible refine o_leI ?_
  | with_reducible refine o_gtI ?_
  | with_reducible refine o_geI ?_
  | with_reducible refine o_eqI ?_
  | with_reducible refine o_eqS ?_
  | with_reducible refine o_eqP ?_
  | with_reducible refine o_neI ?_
  | with_reducible refine o_neS ?_
  | with_reducible refine o_isN' ?_
  | with_reducible refine o_isB' ?_
  | with_reducible refine o_notN' ?_
  | ((with_reducible refine' o_ixT ?ee_ ?ff_ ?_); (case ee_ => first | rfl | assumption); (case ff_ => first | rfl | assumption))
  | ((with_reducible refine' o_ixL ?ee_ ?ff_ ?_); (case ee_ => first | rfl | assumption); (case ff_ => first | rfl | assumption))
  | with_reducible refine o_slL ?_
  | with_reducible refine o_slT ?_
  | with_reducible refine s_dnT ?_
  | with_reducible refine s_dnK ?_
  | with_reducible refine o_neP ?_
  | with_reducible refine o_neC ?_
  | ((with_reducible refine' o_fld ?ee_ ?_); (case ee_ => rfl))
  | with_reducible refine o_lenL ?_
  | with_reducible refine o_lenT ?_
  | with_reducible refine o_lenF ?_
  | with_reducible refine o_lenD ?_
  | with_reducible refine o_int ?_
  | with_reducible refine o_abs ?_
  | with_reducible refine o_max ?_
  | with_reducible refine o_min ?_
  | with_reducible refine o_list ?_
  | ((with_reducible refine' o_inT ?ee_ ?_); (case ee_ => rfl))
  | ((with_reducible refine' o_ninT ?ee_ ?_); (case ee_ => rfl))
  | with_reducible refine o_neg ?_
  | ((with_reducible refine' o_inF ?ee_ ?_); (case ee_ => rfl))
  | ((with_reducible refine' o_ninF ?ee_ ?_); (case ee_ => rfl))
  | with_reducible refine s_tup ?_
  | with_reducible refine s_lst ?_
  | with_reducible refine s_un ?_
  | with_reducible refine s_cl ?_
  | with_reducible refine s_test ?_
  | with_reducible refine s_and ?_
  | with_reducible refine s_or ?_
  | with_reducible refine s_not ?_
  | with_reducible refine s_andV ?_
  | with_reducible refine s_orV ?_
  | with_reducible refine s_notV ?_
  | with_reducible refine s_ifV ?_
  | with_reducible refine s_chain ?_
  | with_reducible refine x_ib ?_
  | with_reducible refine s_pN ?_
  | with_reducible refine s_pS ?_
  | with_reducible refine s_sl ?_
  | with_reducible refine s_sameL ?_
  | with_reducible refine o_isNB ?_
  | with_reducible refine s_fz ?_
  | with_reducible refine o_ixH ?_
  | ((with_reducible refine' x_noa ?ee_ ?_); (case ee_ => rfl))
  | ((with_reducible refine' x_lenN ?ee_ ?ff_ ?_); (case ee_ => omega); (case ff_ => omega))
  | ((with_reducible refine' x_le1000 ?ee_ ?_); (case ee_ => rfl))
  | with_reducible refine s_call ?_
  | ((with_reducible refine' x_con ?ee_ ?ff_ ?_); (case ee_ => rfl); (case ff_ => rfl))
  | ((with_reducible refine' s_callD ?ee_ ?ff_ ?_); (case ee_ => rfl); (case ff_ => rfl))
  | ((with_reducible refine' x_back ?ll_ ?ee_ ?_); (case ll_ => rfl); (case ee_ => rfl))
  | ((with_reducible refine' x_back1 ?ee_ ?_); (case ee_ => rfl))
  | with_reducible refine s_gaN ?_
  | with_reducible refine s_gaV ?_
  | ((with_reducible refine' s_gaR ?ee_ ?_); (case ee_ => rfl))
  | with_reducible refine s_meth ?_
  | with_reducible refine s_meth0 ?_
  | with_reducible refine s_methK ?_
  | with_reducible refine s_makeK ?_
  | ((with_reducible refine' x_frzsK ?ee_ ?ll_ ?_); (case ee_ => rfl); (case ll_ => rfl))
  | with_reducible refine s_prop ?_
  | with_reducible refine s_make ?_
  | with_reducible refine s_own2 ?_
  | with_reducible refine s_eqX ?_
  | with_reducible refine s_neX ?_
  | with_reducible refine s_rev ?_
  | with_reducible refine x_nb ?_
  | ((with_reducible refine' x_rev ?ee_ ?ff_ ?_); (case ee_ => rfl); (case ff_ => rfl))
  | with_reducible refine s_lenO ?_
  | ((with_reducible refine' s_mut ?ee_ ?_); (case ee_ => rfl))
  | ((with_reducible refine' x_mut ?ee_ ?ff_ ?_); (case ee_ => rfl); (case ff_ => rfl))
  | ((with_reducible refine' s_mut0 ?ee_ ?_); (case ee_ => rfl))
  | with_reducible refine m_clr ?_
  | with_reducible refine m_rev ?_
  | with_reducible refine s_dget ?_
  | with_reducible refine s_dget1 ?_
  | with_reducible refine s_dget2 ?_
  | ((with_reducible refine' x_isT ?ee_ ?_); (case ee_ => rfl))
  | ((with_reducible refine' x_isK ?ee_ ?_); (case ee_ => rfl))
  | ((with_reducible refine' x_get2 ?ee_ ?ff_ ?gg_ ?_); (case ee_ => rfl); (case ff_ => rfl); (case gg_ => rfl))
  | with_reducible refine s_din ?_
  | with_reducible refine s_dnin ?_
  | ((with_reducible refine' s_lookT ?ee_ ?_); (case ee_ => rfl))
  | ((with_reducible refine' s_lookK ?ee_ ?_); (case ee_ => rfl))
  | with_reducible refine s_seq ?_
  | with_reducible refine s_set ?_
  | with_reducible refine s_ret ?_
  | with_reducible refine s_retN ?_
  | with_reducible refine s_if ?_
  | with_reducible refine s_next ?_
  | with_reducible refine s_drop ?_
  | with_reducible refine s_brk ?_
  | with_reducible refine s_cnt ?_
  | with_reducible refine s_asg ?_
  | with_reducible refine s_raise ?_
  | with_reducible refine s_setIx ?_
  | ((with_reducible refine' s_gN ?ee_ ?_); (case ee_ => rfl))
  | with_reducible refine s_gNl ?_
  | with_reducible refine s_gCn ?_
  | ((with_reducible refine' s_gT ?ee_ ?_); (case ee_ => rfl))
  | ((with_reducible refine' s_gL ?ee_ ?_); (case ee_ => rfl))
  | with_reducible refine s_for ?_
  | with_reducible refine s_wSeq ?_
  | ((with_reducible refine' x_items ?ee_ ?ff_ ?_); (case ee_ => rfl); (case ff_ => rfl))
  | with_reducible refine s_rng1 ?_
  | ((with_reducible refine' x_rng1 ?ee_ ?aa_ ?bb_ ?_); (case ee_ => rfl); (case aa_ => omega); (case bb_ => omega))
  | with_reducible refine s_rng2 ?_
  | ((with_reducible refine' x_rng2 ?ee_ ?aa_ ?_); (case ee_ => rfl); (case aa_ => exact ⟨by omega, by omega, by omega, by omega⟩))
  | with_reducible refine s_enum ?_
  | ((with_reducible refine' x_enum ?ee_ ?_); (case ee_ => rfl))
  | with_reducible refine s_lc ?_
  | with_reducible refine s_lcG ?_
  | ((with_reducible refine' s_lcV ?ee_ ?ff_ ?_); (case ee_ => rfl); (case ff_ => rfl))
  | ((with_reducible refine' s_forV ?ee_ ?_); (case ee_ => rfl))
  | ((with_reducible refine' x_clear ?ee_ ?_); (case ee_ => rfl))
  | with_reducible refine s_yes ?_
  | ((with_reducible refine' s_end ?ee_ ?bb_ ?_); (case ee_ => rfl); (case bb_ => walk_at "bk"))
  | ((with_reducible refine' x_pxT ?ee_ ?_); (case ee_ => assumption))
  | with_reducible refine x_got rfl ?_
  | with_reducible refine x_in0 ?_
  | with_reducible refine x_inS ?_
  | ((with_reducible refine' s_gVal ?ee_ ?_); (case ee_ => rfl))
  | ((with_reducible refine' s_gTag ?ee_ ?_); (case ee_ => rfl))
  | ((with_reducible refine' x_px ?bb_ ?_); (case bb_ => walk_at "bk"))
  | ((with_reducible refine' s_endN ?bb_ ?_); (case bb_ => walk_at "bk"))
  | with_reducible refine iteT ?_
  | with_reducible refine iteF ?_
  | with_reducible refine r_iteNf ?_
  | with_reducible refine r_iteNt ?_)
local macro_rules | `(tactic| walk_at "ds") => `(tactic| (repeat' (walk_at "ds1")))
set_option hygiene false in
local macro_rules | `(tactic| walk_at "dx") => `(tactic| (repeat' (first | walk_at "ds1" | with_reducible refine (fun (a : Addr) => ?_ : ∀ _ : Addr, _) | with_reducible refine ite_d (fun c => ?_) (fun c => ?_) | with_reducible refine ite_nd (fun c => ?_) (fun c => ?_) | with_reducible refine ite_nb (fun c => ?_) (fun c => ?_) | with_reducible refine ite_b (fun c => ?_) (fun c => ?_))))
set_option hygiene false in
local macro_rules | `(tactic| walk_at "dy") => `(tactic| (repeat' (first | walk_at "ds1" | with_reducible refine (fun (a : Addr) => ?_ : ∀ _ : Addr, _))))
/-! ### the law's own sums -/
abbrev dueD (w h : Int) (ms : List Mir) : D := .tup [.int w, .int h, mirsD ms]
def conBeside : Con := fun es P _ => ∃ (w h : Int) (ms : List Mir) (w2 h2 : Int) (ns : List Mir), es = [.imm (dueD w h ms), .imm (dueD w2 h2 ns)] ∧ ms.length ≤ 400 ∧ ns.length ≤ 400 ∧
  ∀ rs : List Mir, rs.Perm (ms ++ ns.map (shX (2 * w))) → rs.Pairwise Mle → P (.imm (dueD (w + w2) h rs)) es
def conAboveL : Con := fun es P _ => ∃ (w h : Int) (ms : List Mir) (w2 h2 : Int) (ns : List Mir), es = [.imm (dueD w h ms), .imm (dueD w2 h2 ns)] ∧ ms.length ≤ 400 ∧ ns.length ≤ 400 ∧
  ∀ rs : List Mir, rs.Perm (ms ++ ns.map (shY (2 * h))) → rs.Pairwise Mle → P (.imm (dueD w (h + h2) rs)) es
theorem eqD_pt (a b c d : Int) : eqD (plD a b) (plD c d) = decide (a = c ∧ b = d) := by
  unfold eqD
  simp only [toPy, toPys, PyData.eqv, PyData.eqvAll, Bool.and_true]
  by_cases h1 : a = c <;> by_cases h2 : b = d <;> simp [h1, h2]
theorem okDs_pts (n : Nat) : ∀ pts : List (Int × Int), okDs (n + 1) (toPys (pts.map ptOf)) = true
  | [] => by simp [toPys, okDs]
  | p :: pts => by
    rw [List.map_cons, toPys, okDs, okDs_pts n pts, Bool.and_true]
    simp [toPy, toPys, okD, okDs]
theorem toPys_len : ∀ ds : List D, (toPys ds).length = ds.length
  | [] => rfl
  | d :: ds => by rw [toPys, List.length_cons, List.length_cons, toPys_len ds]
theorem okP_pts {pts : List (Int × Int)} (hz : pts.length ≤ 1000) : okP (.lst (pts.map ptOf)) := by
  show okD 40 (.list (toPys (pts.map ptOf))) = true
  rw [okD, Bool.and_eq_true]
  refine ⟨?_, okDs_pts 38 pts⟩
  rw [toPys_len, List.length_map]
  exact decide_eq_true (by omega)
theorem any_pts {x y : Int} : ∀ pts : List (Int × Int), ((pts.map ptOf).any fun z => eqD z (plD x y)) = decide ((x, y) ∈ pts)
  | [] => by simp
  | p :: pts => by
    rw [List.map_cons, List.any_cons, any_pts pts, show ptOf p = plD p.1 p.2 from rfl, eqD_pt]
    by_cases h : (x, y) = p
    · subst h; simp
    · have h' : ¬ (p.1 = x ∧ p.2 = y) := fun q => h (Prod.ext q.1.symm q.2.symm)
      simp [h, h']
theorem o_ninPts {x y : Int} {pts : List (Int × Int)} {P : Ent → Prop} (hz : pts.length ≤ 1000) (k : P (.imm (.bl (!decide ((x, y) ∈ pts))))) : oNin (plD x y) (.lst (pts.map ptOf)) P := by
  refine ⟨rfl, okP_pts hz, _, rfl, ?_⟩
  rw [any_pts]
  exact k
theorem o_inPts {x y : Int} {pts : List (Int × Int)} {P : Ent → Prop} (hz : pts.length ≤ 1000) (k : P (.imm (.bl (decide ((x, y) ∈ pts))))) : oIn (plD x y) (.lst (pts.map ptOf)) P := by
  refine ⟨rfl, okP_pts hz, ?_⟩
  rw [any_pts]
  exact k
def conSpot : Con := fun es P _ => ∃ p c n w h, es = [.hand p c n, .int w, .int h] ∧ n < 900000000 ∧ 1 ≤ w ∧ 1 ≤ h ∧ 2 < w + h ∧ ∀ (x y : Int) (n' : Nat), Ins w h x y → n' ≤ n + 20 → P (.imm (plD x y)) [.hand p c n', .int w, .int h]
theorem ixN_at {n i : Nat} (h : i < n) : ixN n (0 + (i : Int)) = some i := by
  unfold ixN
  simp <;> omega
theorem ix_any {l : List D} {r : Int} (h0 : 0 ≤ r) (h1 : r < l.length) : ∃ k d, ixN l.length r = some k ∧ l[k]? = some d ∧ d ∈ l := by
  have hk : r.toNat < l.length := by omega
  refine ⟨r.toNat, l[r.toNat], ?_, List.getElem?_eq_getElem hk, List.getElem_mem hk⟩
  have z := ixN_at (n := l.length) (i := r.toNat) hk
  rw [show (0 : Int) + (r.toNat : Int) = r by omega] at z
  exact z
theorem at_map {α β : Type} {l : List α} {f : α → β} {i : Nat} {z : α} (h : l[i]? = some z) : (l.map f)[i]? = some (f z) := by rw [List.getElem?_map, h]; rfl
theorem pt_one {w h : Int} {ms : List Mir} (g : GoodMs w h ms) {x y : Int} (i : (x, y) ∈ ms.map mK) : ∃ k, (x, y, k) ∈ ms ∧ KindOk k ∧ ms.filter (atB x y) = [(x, y, k)] := by
  obtain ⟨⟨a, b, k⟩, hm, e⟩ := List.mem_map.mp i
  have e : (a, b) = (x, y) := e
  obtain ⟨rfl, rfl⟩ := Prod.ext_iff.mp e
  refine ⟨k, hm, g.kind _ hm, ?_⟩
  have gn := g.nd
  clear g i
  induction ms with
  | nil => simp at hm
  | cons m ms ih =>
    rw [List.map_cons, List.nodup_cons] at gn
    obtain ⟨n1, n2⟩ := gn
    rcases List.mem_cons.mp hm with rfl | hm
    · rw [List.filter_cons_of_pos (by unfold atB; exact decide_eq_true ⟨rfl, rfl⟩)]
      rw [List.filter_eq_nil_iff.mpr fun m' h' q => ?_]
      have q' := of_decide_eq_true (p := m'.1 = a ∧ m'.2.1 = b) q
      exact n1 (List.mem_map.mpr ⟨m', h', Prod.ext q'.1 q'.2⟩)
    · rw [List.filter_cons_of_neg ?_]
      · exact ih hm n2
      · intro q
        have q' := of_decide_eq_true (p := m.1 = a ∧ m.2.1 = b) q
        exact n1 (List.mem_map.mpr ⟨_, hm, Prod.ext q'.1.symm q'.2.symm⟩)
theorem pt_none {ms : List Mir} {x y : Int} (i : (x, y) ∉ ms.map mK) : ms.filter (atB x y) = [] :=
  List.filter_eq_nil_iff.mpr fun m h q => i (by
    have q' := of_decide_eq_true (p := m.1 = x ∧ m.2.1 = y) q
    exact List.mem_map.mpr ⟨m, h, Prod.ext q'.1 q'.2⟩)
theorem kind_mem {ms : List Mir} (nd : (ms.map mK).Nodup) {x y : Int} {k : Str} (h : (x, y, k) ∈ ms) : kindD ms x y = .str k := by
  have a := look_val ms (ptK (x, y))
  have b := kvs_get nd h
  have b' : valV (kvsOf ms) (ptK (x, y)) = some (.str k) := b
  rw [b'] at a
  unfold kindD
  cases q : lookD (kvD ms) (ptK (x, y)) with
  | none => rw [q] at a; cases a
  | some d =>
    obtain ⟨m, _, rfl⟩ := look_str q
    rw [q] at a
    injection a with a
    injection a with a
    rw [a]
    rfl
theorem kind_none {ms : List Mir} {x y : Int} (h : (x, y) ∉ ms.map mK) : kindD ms x y = .non := by
  unfold kindD
  cases q : lookD (kvD ms) (ptK (x, y)) with
  | none => rfl
  | some d => exact absurd ((look_iff ms (x, y)).mp (by rw [q]; rfl)) h
theorem filt_out {ms : List Mir} {x y : Int} : (x, y) ∉ (ms.filter fun m => !atB x y m).map mK := fun q => by
  obtain ⟨m, hm, e⟩ := List.mem_map.mp q
  have z := (List.mem_filter.mp hm).2
  have e' := Prod.ext_iff.mp e
  unfold atB at z
  rw [decide_eq_true (show m.1 = x ∧ m.2.1 = y from e')] at z
  cases z
theorem ne_brd {w h : Int} {ms ns : List Mir} (g : (ms.map mK).Nodup) (g2 : (ns.map mK).Nodup) (p : ¬ ms.Perm ns) : (decide (w = w) && (decide (h = h) && eqT (kvsOf ms) (kvsOf ns))) = false := by
  have e : eqT (kvsOf ms) (kvsOf ns) = false := by
    cases q : eqT (kvsOf ms) (kvsOf ns) with
    | false => rfl
    | true => exact absurd ((eqT_perm g g2).mp q) p
  rw [e, decide_eq_true rfl, decide_eq_true rfl]
  rfl
abbrev elD (C : Addr) (w h : Int) (z : List Mir × List Mir) : D := .tup [brdD C w h z.1, mirsD z.2]
abbrev Prt := Int × Int × List Mir
abbrev prD (z : Prt) : D := dueD z.1 z.2.1 z.2.2
abbrev prB (C : Addr) (z : Prt) : D := brdD C z.1 z.2.1 z.2.2
theorem eq_brd {w h : Int} {ms ns : List Mir} (g : (ms.map mK).Nodup) (p : ms.Perm ns) : (decide (w = w) && (decide (h = h) && eqT (kvsOf ms) (kvsOf ns))) = true := by
  rw [(eqT_perm g (((p.map mK).nodup_iff).mp g)).mpr p, decide_eq_true rfl, decide_eq_true rfl]
  rfl
section
variable {P : Program} {w : World} {K : PySem.W.Frag} {mg : Str → Option Value} {base : Heap} {A : Ad}
theorem okd__law_spot (T : Txt K mg A) : FnOk P w K mg base (L2.CX P w) (2 + 1) A.f__law_spot A.d__law_spot P__law_spot (spD K conSpot) := by
  have G__law_take := okd__law_take (P := P) (w := w) (base := base) T
  have G__law_big := okd__law_big (P := P) (w := w) (base := base) T
  refine okD_fn T.F__law_spot sc__law_spot (fun es P PX h => ?_) (fun cdv A' outer s H I E es R PX hr fo hc => ?_)
  · obtain ⟨p, q, n, w', h', rfl, _⟩ := h
    rfl
  obtain ⟨p, q, n, w', h', rfl, hn, hw, hh', hwh, hP⟩ := hc
  have hu := hu_of hr
  refine ⟨_, (dss_cons (ds_set (i := 3) sc__law_spot.nd rfl (Or.inl rfl) (de_and (de_cmp dor_gt (dv 1) de_int (nomark _)) (de_one (de_or (de_cmp (dor_eq hr.units) (dv 2) de_int (nomark _)) (de_one (de_cmp (dor_eq hr.units) (de_call G__law_take (hr.mono (by first | decide | omega)) rfl T.g__law_take T.k__law_take T.b__law_take (takes_of rfl rfl rfl rfl) fo (gr 0 (dg_v de_int dg_nil))) de_int (nomark _)))))))
(dss_cons (ds_if (dt_val (dv 3))
(dss_one (ds_ret (de_tup (da_cons (de_op dor_add de_int (de_op dor_mul de_int (de_call G__law_big (hr.mono (by first | decide | omega)) rfl T.g__law_big T.k__law_big T.b__law_big (takes_of rfl rfl rfl rfl) fo (gr 0 (dg_v (de_op dor_sub (dv 1) de_int) dg_nil))))) (da_cons (de_op dor_add de_int (de_op dor_mul de_int (de_call G__law_big (hr.mono (by first | decide | omega)) rfl T.g__law_big T.k__law_big T.b__law_big (takes_of rfl rfl rfl rfl) fo (gr 0 (dg_v (dv 2) dg_nil))))) da_nil)))))
dss_nil)
(dss_one (ds_ret (de_tup (da_cons (de_op dor_add de_int (de_op dor_mul de_int (de_call G__law_big (hr.mono (by first | decide | omega)) rfl T.g__law_big T.k__law_big T.b__law_big (takes_of rfl rfl rfl rfl) fo (gr 0 (dg_v (dv 1) dg_nil))))) (da_cons (de_op dor_add de_int (de_op dor_mul de_int (de_call G__law_big (hr.mono (by first | decide | omega)) rfl T.g__law_big T.k__law_big T.b__law_big (takes_of rfl rfl rfl rfl) fo (gr 0 (dg_v (de_op dor_sub (dv 2) de_int) dg_nil))))) da_nil))))))), ?_⟩
  walk_at "dy"
  walk_at "dx"
  · refine ⟨p, q, n, _, rfl, by omega, by omega, fun a a0 a1 => ?_⟩
    walk_at "dx"
    refine ⟨p, q, n + 4, _, rfl, by omega, by omega, fun b b0 b1 => ?_⟩
    walk_at "dx"
    exact hP _ _ _ ⟨by omega, by omega, by omega, by omega, by omega⟩ (by omega)
  · refine ⟨p, q, n, _, rfl, by omega, by decide, by decide, fun r r0 r1 => ?_⟩
    walk_at "dx"
    · refine ⟨p, q, n + 1, _, rfl, by omega, by omega, fun a a0 a1 => ?_⟩
      walk_at "dx"
      refine ⟨p, q, n + 1 + 4, _, rfl, by omega, by omega, fun b b0 b1 => ?_⟩
      walk_at "dx"
      exact hP _ _ _ ⟨by omega, by omega, by omega, by omega, by omega⟩ (by omega)
    · refine ⟨p, q, n + 1, _, rfl, by omega, by omega, fun a a0 a1 => ?_⟩
      walk_at "dx"
      refine ⟨p, q, n + 1 + 4, _, rfl, by omega, by omega, fun b b0 b1 => ?_⟩
      walk_at "dx"
      exact hP _ _ _ ⟨by omega, by omega, by omega, by omega, by omega⟩ (by omega)
  · refine ⟨p, q, n, _, rfl, by omega, by omega, fun a a0 a1 => ?_⟩
    walk_at "dx"
    refine ⟨p, q, n + 4, _, rfl, by omega, by omega, fun b b0 b1 => ?_⟩
    walk_at "dx"
    exact hP _ _ _ ⟨by omega, by omega, by omega, by omega, by omega⟩ (by omega)
end

end

section
local macro_rules | `(tactic| walk_at "al") => `(tactic| first
  | omega
  | exact Or.inl (Or.inl ⟨by omega, by omega⟩)
  | exact Or.inl (Or.inr ⟨by omega, by omega⟩)
  | exact ⟨by omega, Or.inl (by omega)⟩
  | exact ⟨by omega, by omega, by omega, by omega⟩
  | exact ⟨by decide, by decide, by decide⟩)
local macro_rules | `(tactic| walk_at "bk") => `(tactic| repeat (first | exact BackE.nil | apply BackE.imm | apply BackE.own | apply BackE.hand))
local macro_rules | `(tactic| walk_at "ds1") => `(tactic| first
  | ((with_reducible refine' s_vi ?ee_ ?_); (case ee_ => rfl))
  | ((with_reducible refine' s_vs ?ee_ ?_); (case ee_ => rfl))
  | with_reducible refine s_c ?_
  | with_reducible refine s_aN ?_
  | with_reducible refine s_aC ?_
  | with_reducible refine s_op ?_
  | ((with_reducible refine' x_val2 ?ee_ ?ff_ ?_); (case ee_ => rfl); (case ff_ => rfl))
  | ((with_reducible refine' x_bl ?ee_ ?_); (case ee_ => rfl))
  | ((with_reducible refine' x_int ?ee_ ?_); (case ee_ => rfl))
  | ((with_reducible refine' x_val ?ee_ ?_); (case ee_ => rfl))
  | ((with_reducible refine' x_vals ?ee_ ?_); (case ee_ => rfl))
  | ((with_reducible refine' x_frzs ?ee_ ?ll_ ?_); (case ee_ => rfl); (case ll_ => rfl))
  | ((with_reducible refine' x_frzO ?ee_ ?_); (case ee_ => rfl))
  | ((with_reducible refine' x_frz2 ?ee_ ?ff_ ?_); (case ee_ => rfl); (case ff_ => rfl))
  | ((with_reducible refine' x_frz ?ee_ ?_); (case ee_ => rfl))
  | ((with_reducible refine' x_asg ?ee_ ?_); (case ee_ => rfl))
  | with_reducible refine o_addI ?_
  | with_reducible refine o_subI ?_
  | ((with_reducible refine' o_mulI ?cc_ ?_); (case cc_ => walk_at "al"))
  | ((with_reducible refine' o_divI ?cc_ ?_); (case cc_ => walk_at "al"))
  | ((with_reducible refine' o_modI ?cc_ ?_); (case cc_ => walk_at "al"))
  | ((with_reducible refine' o_powI ?cc_ ?_); (case cc_ => walk_at "al"))
  | with_reducible refine o_andI ?_
  | with_reducible refine o_ltI ?_
  | with_reducible refine o_leI ?_
  | with_reducible refine o_gtI ?_
  | with_reducible refine o_geI ?_
  | with_reducible refine o_eqI ?_
  | with_reducible refine o_eqS ?_
  | with_reducible refine o_eqP ?_
  | with_reducible refine o_neI ?_
  | with_reducible refine o_neS ?_
  | with_reducible refine o_isN' ?_
  | with_reducible refine o_isB' ?_
  | with_reducible refine o_notN' ?_
  | ((with_reducible refine' o_ixT ?ee_ ?ff_ ?_); (case ee_ => first | rfl | assumption); (case ff_ => first | rfl | assumption))
  | ((with_reducible refine' o_ixL ?ee_ ?ff_ ?_); (case ee_ => first | rfl | assumption); (case ff_ => first | rfl | assumption))
  | with_reducible refine o_slL ?_
  | with_reducible refine o_slT ?_
  | with_reducible refine s_dnT ?_
  | with_reducible refine s_dnK ?_
  | with_reducible refine o_neP ?_
  | with_reducible refine o_neC ?_
  | ((with_reducible refine' o_fld ?ee_ ?_); (case ee_ => rfl))
  | with_reducible refine o_lenL ?_
  | with_reducible refine o_lenT ?_
  | with_reducible refine o_lenF ?_
  | with_reducible refine o_lenD ?_
  | with_reducible refine o_int ?_
  | with_reducible refine o_abs ?_
  | with_reducible refine o_max ?_
  | with_reducible refine o_min ?_
  | with_reducible refine o_list ?_
  | ((with_reducible refine' o_inT ?ee_ ?_); (case ee_ => rfl))
  | ((with_reducible refine' o_ninT ?ee_ ?_); (case ee_ => rfl))
  | with_reducible refine o_neg ?_
  | ((with_reducible refine' o_inF ?ee_ ?_); (case ee_ => rfl))
  | ((with_reducible refine' o_ninF ?ee_ ?_); (case ee_ => rfl))
  | with_reducible refine s_tup ?_
  | with_reducible refine s_lst ?_
  | with_reducible refine s_un ?_
  | with_reducible refine s_cl ?_
  | with_reducible refine s_test ?_
  | with_reducible refine s_and ?_
  | with_reducible refine s_or ?_
  | with_reducible refine s_not ?_
  | with_reducible refine s_andV ?_
  | with_reducible refine s_orV ?_
  | with_reducible refine s_notV ?_
  | with_reducible refine s_ifV ?_
  | with_reducible refine s_chain ?_
  | with_reducible refine x_ib ?_
  | with_reducible refine s_pN ?_
  | with_reducible refine s_pS ?_
  | with_reducible refine s_sl ?_
  | with_reducible refine s_sameL ?_
  | with_reducible refine o_isNB ?_
  | with_reducible refine s_fz ?_
  | with_reducible refine o_ixH ?_
  | ((with_reducible refine' x_noa ?ee_ ?_); (case ee_ => rfl))
  | ((with_reducible refine' x_lenN ?ee_ ?ff_ ?_); (case ee_ => omega); (case ff_ => omega))
  | ((with_reducible refine' x_le1000 ?ee_ ?_); (case ee_ => rfl))
  | with_reducible refine s_call ?_
  | ((with_reducible refine' x_con ?ee_ ?ff_ ?_); (case ee_ => rfl); (case ff_ => rfl))
  | ((with_reducible refine' s_callD ?ee_ ?ff_ ?_); (case ee_ => rfl); (case ff_ => rfl))
  | ((with_reducible refine' x_back ?ll_ ?ee_ ?_); (case ll_ => rfl); (case ee_ => rfl))
  | ((with_reducible refine' x_back1 ?ee_ ?_); (case ee_ => rfl))
  | with_reducible refine s_gaN ?_
  | with_reducible refine s_gaV ?_
  | ((with_reducible refine' s_gaR ?ee_ ?_); (case ee_ => rfl))
  | with_reducible refine s_meth ?_
  | with_reducible refine s_meth0 ?_
  | with_reducible refine s_methK ?_
  | with_reducible refine s_makeK ?_
  | ((with_reducible refine' x_frzsK ?ee_ ?ll_ ?_); (case ee_ => rfl); (case ll_ => rfl))
  | with_reducible refine s_prop ?_
  | with_reducible refine s_make ?_
  | with_reducible refine s_own2 ?_
  | with_reducible refine s_eqX ?_
  | with_reducible refine s_neX ?_
  | with_reducible refine s_rev ?_
  | with_reducible refine x_nb ?_
  | ((with_reducible refine' x_rev ?ee_ ?ff_ ?_); (case ee_ => rfl); (case ff_ => rfl))
  | with_reducible refine s_lenO ?_
  | ((with_reducible refine' s_mut ?ee_ ?_); (case ee_ => rfl))
  | ((with_reducible refine' x_mut ?ee_ ?ff_ ?_); (case ee_ => rfl); (case ff_ => rfl))
  | ((with_reducible refine' s_mut0 ?ee_ ?_); (case ee_ => rfl))
  | with_reducible refine m_clr ?_
  | with_reducible refine m_rev ?_
  | with_reducible refine s_dget ?_
  | with_reducible refine s_dget1 ?_
  | with_reducible refine s_dget2 ?_
  | ((with_reducible refine' x_isT ?ee_ ?_); (case ee_ => rfl))
  | ((with_reducible refine' x_isK ?ee_ ?_); (case ee_ => rfl))
  | ((with_reducible refine' x_get2 ?ee_ ?ff_ ?gg_ ?_); (case ee_ => rfl); (case ff_ => rfl); (case gg_ => rfl))
  | with_reducible refine s_din ?_
  | with_reducible refine s_dnin ?_
  | ((with_reducible refine' s_lookT ?ee_ ?_); (case ee_ => rfl))
  | ((with_reducible refine' s_lookK ?ee_ ?_); (case ee_ => rfl))
  | with_reducible refine s_seq ?_
  | with_reducible refine s_set ?_
  | with_reducible refine s_ret ?_
  | with_reducible refine s_retN ?_
  | with_reducible refine s_if ?_
  | with_reducible refine s_next ?_
  | with_reducible refine s_drop ?_
  | with_reducible refine s_brk ?_
  | with_reducible refine s_cnt ?_
  | with_reducible refine s_asg ?_
  | with_reducible refine s_raise ?_
  | with_reducible refine s_setIx ?_
  | ((with_reducible refine' s_gN ?ee_ ?_); (case ee_ => rfl))
  | with_reducible refine s_gNl ?_
  | with_reducible refine s_gCn ?_
  | ((with_reducible refine' s_gT ?ee_ ?_); (case ee_ => rfl))
  | ((with_reducible refine' s_gL ?ee_ ?_); (case ee_ => rfl))
  | with_reducible refine s_for ?_
  | with_reducible refine s_wSeq ?_
  | ((with_reducible refine' x_items ?ee_ ?ff_ ?_); (case ee_ => rfl); (case ff_ => rfl))
  | with_reducible refine s_rng1 ?_
  | ((with_reducible refine' x_rng1 ?ee_ ?aa_ ?bb_ ?_); (case ee_ => rfl); (case aa_ => omega); (case bb_ => omega))
  | with_reducible refine s_rng2 ?_
  | ((with_reducible refine' x_rng2 ?ee_ ?aa_ ?_); (case ee_ => rfl); (case aa_ => exact ⟨by omega, by omega, by omega, by omega⟩))
  | with_reducible refine s_enum ?_
  | ((with_reducible refine' x_enum ?ee_ ?_); (case ee_ => rfl))
  | with_reducible refine s_lc ?_
  | with_reducible refine s_lcG ?_
  | ((with_reducible refine' s_lcV ?ee_ ?ff_ ?_); (case ee_ => rfl); (case ff_ => rfl))
  | ((with_reducible refine' s_forV ?ee_ ?_); (case ee_ => rfl))
  | ((with_reducible refine' x_clear ?ee_ ?_); (case ee_ => rfl))
  | with_reducible refine s_yes ?_
  | ((with_reducible refine' s_end ?ee_ ?bb_ ?_); (case ee_ => rfl); (case bb_ => walk_at "bk"))
  | ((with_reducible refine' x_pxT ?ee_ ?_); (case ee_ => assumption))
  | with_reducible refine x_got rfl ?_
  | with_reducible refine x_in0 ?_
  | with_reducible refine x_inS ?_
  | ((with_reducible refine' s_gVal ?ee_ ?_); (case ee_ => rfl))
  | ((with_reducible refine' s_gTag ?ee_ ?_); (case ee_ => rfl))
  | ((with_reducible refine' x_px ?bb_ ?_); (case bb_ => walk_at "bk"))
  | ((with_reducible refine' s_endN ?bb_ ?_); (case bb_ => walk_at "bk"))
  | with_reducible refine iteT ?_
  | with_reducible refine iteF ?_
  | with_reducible refine r_iteNf ?_
  | with_reducible refine r_iteNt ?_)
local macro_rules | `(tactic| walk_at "ds") => `(tactic| (repeat' (walk_at "ds1")))
set_option hygiene false in
local macro_rules | `(tactic| walk_at "dx") => `(tactic| (repeat' (first | walk_at "ds1" | with_reducible refine (fun (a : Addr) => ?_ : ∀ _ : Addr, _) | with_reducible refine ite_d (fun c => ?_) (fun c => ?_) | with_reducible refine ite_nd (fun c => ?_) (fun c => ?_) | with_reducible refine ite_nb (fun c => ?_) (fun c => ?_) | with_reducible refine ite_b (fun c => ?_) (fun c => ?_))))
set_option hygiene false in
local macro_rules | `(tactic| walk_at "dy") => `(tactic| (repeat' (first | walk_at "ds1" | with_reducible refine (fun (a : Addr) => ?_ : ∀ _ : Addr, _))))
/-! ### equal boards, and others -/
structure RowOk (w h : Int) (ms : List Mir) (z : Prt) : Prop where
  w1 : 1 ≤ z.1
  h1 : 1 ≤ z.2.1
  g : GoodMs z.1 z.2.1 z.2.2
  l : z.2.2.length ≤ 210
  ne : z.1 = w → z.2.1 = h → ¬ ms.Perm z.2.2
theorem RowOk.perm {w h : Int} {ms ns : List Mir} {z : Prt} (r : RowOk w h ms z) (p : ms.Perm ns) : RowOk w h ns z := ⟨r.w1, r.h1, r.g, r.l, fun a b q => r.ne a b (p.trans q)⟩
theorem ne_row {w h : Int} {ms : List Mir} {z : Prt} (g : GoodMs w h ms) (r : RowOk w h ms z) : (decide (w = z.1) && (decide (h = z.2.1) && eqT (kvsOf ms) (kvsOf z.2.2))) = false ∧ (decide (z.1 = w) && (decide (z.2.1 = h) && eqT (kvsOf z.2.2) (kvsOf ms))) = false := by
  by_cases a : z.1 = w
  · by_cases b : z.2.1 = h
    · have n := r.ne a b
      have e1 : eqT (kvsOf ms) (kvsOf z.2.2) = false := by
        cases q : eqT (kvsOf ms) (kvsOf z.2.2) with
        | false => rfl
        | true => exact absurd ((eqT_perm g.nd r.g.nd).mp q) n
      have e2 : eqT (kvsOf z.2.2) (kvsOf ms) = false := by
        cases q : eqT (kvsOf z.2.2) (kvsOf ms) with
        | false => rfl
        | true => exact absurd ((eqT_perm r.g.nd g.nd).mp q).symm n
      rw [e1, e2]
      simp
    · rw [decide_eq_false b, decide_eq_false (show ¬ h = z.2.1 from fun q => b q.symm)]
      simp
  · rw [decide_eq_false a, decide_eq_false (show ¬ w = z.1 from fun q => a q.symm)]
    simp
theorem GoodMs.wide {w h w2 h2 : Int} {ms : List Mir} (g : GoodMs w h ms) (hw : w ≤ w2) (hh : h ≤ h2) : GoodMs w2 h2 ms :=
  ⟨fun m hm => by have i := g.ins m hm; unfold Ins at i ⊢; omega, g.kind, g.nd⟩
theorem GoodMs.inner {w h w' h' : Int} {ms : List Mir} (g : GoodMs w h ms) : GoodMs w' h' (ms.filter fun m => decide (m.1 < 2 * w') && decide (m.2.1 < 2 * h')) := by
  have z := g.filt fun m => decide (m.1 < 2 * w') && decide (m.2.1 < 2 * h')
  refine ⟨fun m hm => ?_, z.kind, z.nd⟩
  have i := z.ins m hm
  have q := (List.mem_filter.mp hm).2
  rw [Bool.and_eq_true, decide_eq_true_eq, decide_eq_true_eq] at q
  unfold Ins at i ⊢
  omega
theorem okK_ne {k : Str} (h : KindOk k) : okK k ≠ k := by
  rcases h with h | h <;> subst h <;> decide +kernel
/-- one point, one kind -/
theorem one_kind {w h : Int} {ms : List Mir} (g : GoodMs w h ms) {x y : Int} {k k' : Str} (a : (x, y, k) ∈ ms) (b : (x, y, k') ∈ ms) : k = k' := by
  have e := kind_mem g.nd a
  rw [kind_mem g.nd b] at e
  injection e with e
  exact e.symm
section
variable {w h x y : Int} {k : Str} {rest ms : List Mir}
theorem rest_out (g : GoodMs w h ((x, y, k) :: rest)) : (x, y) ∉ rest.map mK := by
  have z := g.nd
  rw [List.map_cons, List.nodup_cons] at z
  exact z.1
theorem rest_good (g : GoodMs w h ((x, y, k) :: rest)) : GoodMs w h rest := g.sub (List.sublist_cons_self ..)
theorem filt_in {f : Mir → Bool} {z : Int × Int} (h : z ∈ (rest.filter f).map mK) : z ∈ rest.map mK := by
  obtain ⟨m, hm, e⟩ := List.mem_map.mp h
  exact List.mem_map.mpr ⟨m, (List.mem_filter.mp hm).1, e⟩
theorem row_exch (g : GoodMs w h ((x, y, k) :: rest)) (w1 : 1 ≤ w) (h1 : 1 ≤ h) (hl : rest.length ≤ 200) {m : Mir} (hm : m ∈ rest) (hk : m.2.2 ≠ k) :
    RowOk w h ((x, y, k) :: rest) (w, h, (rest.filter fun z => !atB m.1 m.2.1 z) ++ [(x, y, m.2.2), (m.1, m.2.1, k)]) := by
  have gf := (rest_good g).filt fun z => !atB m.1 m.2.1 z
  have hd : (x, y, k) ∈ (x, y, k) :: rest := List.mem_cons_self ..
  have hmm : m ∈ (x, y, k) :: rest := List.mem_cons_of_mem _ hm
  have i1 : Ins w h x y := g.ins _ hd
  have i2 : Ins w h m.1 m.2.1 := g.ins _ hmm
  have o1 := rest_out g
  have g2 := gf.snoc (k := m.2.2) i1 (g.kind _ hmm) fun q => o1 (filt_in q)
  have g3 := g2.snoc (x := m.1) (y := m.2.1) (k := k) i2 (g.kind _ hd) (fun q => by
    rw [List.map_append, List.mem_append] at q
    rcases q with q | q
    · exact filt_out q
    · have e : (m.1, m.2.1) = (x, y) := by simpa [mK] using q
      exact o1 (List.mem_map.mpr ⟨m, hm, e⟩))
  rw [List.append_assoc] at g3
  refine ⟨w1, h1, g3, ?_, fun _ _ q => ?_⟩
  · have l := List.length_filter_le (fun z => !atB m.1 m.2.1 z) rest
    show ((rest.filter fun z => !atB m.1 m.2.1 z) ++ [(x, y, m.2.2), (m.1, m.2.1, k)]).length ≤ 210
    rw [List.length_append]
    simp only [List.length_cons, List.length_nil]
    omega
  · have a : (x, y, m.2.2) ∈ (x, y, k) :: rest := q.mem_iff.mpr (List.mem_append_right _ (List.mem_cons_self ..))
    exact hk (one_kind g a hd)
theorem row_across (g : GoodMs w h ((x, y, k) :: rest)) (w1 : 1 ≤ w) (h1 : 1 ≤ h) (hl : rest.length ≤ 200) {m : Mir} (hm : m ∈ rest) (a1 : m.1 ≠ x) (a2 : m.2.1 ≠ y) (a3 : (x + m.2.1) % 2 = 1) (a4 : (x, m.2.1) ∉ rest.map mK) (a5 : (m.1, y) ∉ rest.map mK) :
    RowOk w h ((x, y, k) :: rest) (w, h, (rest.filter fun z => !atB m.1 m.2.1 z) ++ [(x, m.2.1, k), (m.1, y, m.2.2)]) := by
  have gf := (rest_good g).filt fun z => !atB m.1 m.2.1 z
  have hd : (x, y, k) ∈ (x, y, k) :: rest := List.mem_cons_self ..
  have hmm : m ∈ (x, y, k) :: rest := List.mem_cons_of_mem _ hm
  have i1 : Ins w h x y := g.ins _ hd
  have i2 : Ins w h m.1 m.2.1 := g.ins _ hmm
  have j1 : Ins w h x m.2.1 := by unfold Ins at i1 i2 ⊢; omega
  have j2 : Ins w h m.1 y := by unfold Ins at i1 i2 ⊢; omega
  have g2 := gf.snoc (k := k) j1 (g.kind _ hd) fun q => a4 (filt_in q)
  have g3 := g2.snoc (k := m.2.2) j2 (g.kind _ hmm) (fun q => by
    rw [List.map_append, List.mem_append] at q
    rcases q with q | q
    · exact a5 (filt_in q)
    · have e : (m.1, y) = (x, m.2.1) := by simpa [mK] using q
      exact a1 (Prod.ext_iff.mp e).1)
  rw [List.append_assoc] at g3
  refine ⟨w1, h1, g3, ?_, fun _ _ q => ?_⟩
  · have l := List.length_filter_le (fun z => !atB m.1 m.2.1 z) rest
    show ((rest.filter fun z => !atB m.1 m.2.1 z) ++ [(x, m.2.1, k), (m.1, y, m.2.2)]).length ≤ 210
    rw [List.length_append]
    simp only [List.length_cons, List.length_nil]
    omega
  · have a : (x, m.2.1, k) ∈ (x, y, k) :: rest := q.mem_iff.mpr (List.mem_append_right _ (List.mem_cons_self ..))
    rcases List.mem_cons.mp a with a | a
    · have e := (Prod.ext_iff.mp (Prod.ext_iff.mp a).2).1
      exact a2 e
    · exact a4 (List.mem_map.mpr ⟨_, a, rfl⟩)
theorem row_more (g : GoodMs w h ms) (w1 : 1 ≤ w) (h1 : 1 ≤ h) (hl : ms.length ≤ 200) {a b : Int} {c : Str} (i : Ins w h a b) (ko : KindOk c) (n : (a, b) ∉ ms.map mK) : RowOk w h ms (w, h, ms ++ [(a, b, c)]) := by
  refine ⟨w1, h1, g.snoc i ko n, ?_, fun _ _ q => ?_⟩
  · show (ms ++ [(a, b, c)]).length ≤ 210
    rw [List.length_append]
    simp only [List.length_cons, List.length_nil]
    omega
  · have e := q.length_eq
    rw [List.length_append] at e
    simp only [List.length_cons, List.length_nil] at e
    omega
theorem row_less (g : GoodMs w h ((x, y, k) :: rest)) (w1 : 1 ≤ w) (h1 : 1 ≤ h) (hl : rest.length ≤ 200) : RowOk w h ((x, y, k) :: rest) (w, h, rest) := by
  refine ⟨w1, h1, rest_good g, ?_, fun _ _ q => ?_⟩
  · show rest.length ≤ 210
    omega
  · have e := q.length_eq
    simp only [List.length_cons] at e
    omega
theorem row_kind (g : GoodMs w h ((x, y, k) :: rest)) (w1 : 1 ≤ w) (h1 : 1 ≤ h) (hl : rest.length ≤ 200) : RowOk w h ((x, y, k) :: rest) (w, h, rest ++ [(x, y, okK k)]) := by
  have hd : (x, y, k) ∈ (x, y, k) :: rest := List.mem_cons_self ..
  have ko : KindOk k := g.kind _ hd
  refine ⟨w1, h1, (rest_good g).snoc (g.ins _ hd) (okK_ok k) (rest_out g), ?_, fun _ _ q => ?_⟩
  · show (rest ++ [(x, y, okK k)]).length ≤ 210
    rw [List.length_append]
    simp only [List.length_cons, List.length_nil]
    omega
  · have a : (x, y, okK k) ∈ (x, y, k) :: rest := q.mem_iff.mpr (List.mem_append_right _ (List.mem_cons_self ..))
    exact okK_ne ko (one_kind g a hd)
theorem row_free (g : GoodMs w h ((x, y, k) :: rest)) (w1 : 1 ≤ w) (h1 : 1 ≤ h) (hl : rest.length ≤ 200) {a b : Int} (i : Ins w h a b) (n : (a, b) ∉ ((x, y, k) :: rest).map mK) : RowOk w h ((x, y, k) :: rest) (w, h, rest ++ [(a, b, k)]) := by
  have hd : (x, y, k) ∈ (x, y, k) :: rest := List.mem_cons_self ..
  have n2 : (a, b) ∉ rest.map mK := fun q => n (by rw [List.map_cons]; exact List.mem_cons_of_mem _ q)
  refine ⟨w1, h1, (rest_good g).snoc i (g.kind _ hd) n2, ?_, fun _ _ q => ?_⟩
  · show (rest ++ [(a, b, k)]).length ≤ 210
    rw [List.length_append]
    simp only [List.length_cons, List.length_nil]
    omega
  · have z : (a, b, k) ∈ (x, y, k) :: rest := q.mem_iff.mpr (List.mem_append_right _ (List.mem_cons_self ..))
    exact n (List.mem_map.mpr ⟨_, z, rfl⟩)
theorem split_at {i : Nat} {z : Mir} (hz : ms[i]? = some z) : ms.Perm (z :: (ms.take i ++ ms.drop (i + 1))) := by
  have hi : i < ms.length := by
    rcases Nat.lt_or_ge i ms.length with q | q
    · exact q
    · rw [List.getElem?_eq_none_iff.mpr q] at hz
      cases hz
  have e : ms = ms.take i ++ z :: ms.drop (i + 1) := by
    have a := (List.take_append_drop i ms).symm
    rw [List.drop_eq_getElem_cons hi] at a
    have b : ms[i] = z := by
      rw [List.getElem?_eq_getElem hi] at hz
      exact Option.some.inj hz
    rw [b] at a
    exact a
  have p : (ms.take i ++ z :: ms.drop (i + 1)).Perm (z :: (ms.take i ++ ms.drop (i + 1))) := List.perm_middle
  rw [← e] at p
  exact p
end
theorem ite_t {c : Prop} [Decidable c] {a b : Prop} (h : c) (k : a) : if c then a else b := by rw [if_pos h]; exact k
theorem ite_f {c : Prop} [Decidable c] {a b : Prop} (h : ¬ c) (k : b) : if c then a else b := by rw [if_neg h]; exact k
def conAgree (A : Ad) : Con := fun es P _ => ∃ (w h : Int) (ms : List Mir) (w2 h2 : Int) (ns : List Mir) (due : Bool), es = [.imm (brdD A.C_Board w h ms), .imm (brdD A.C_Board w2 h2 ns), .imm (.bl due)] ∧
  (decide (w = w2) && (decide (h = h2) && eqT (kvsOf ms) (kvsOf ns))) = due ∧ (decide (w2 = w) && (decide (h2 = h) && eqT (kvsOf ns) (kvsOf ms))) = due ∧ P (.imm (.bl true)) es
def conExch : Con := fun es P _ => ∃ (p c : Addr) (n : Nat) (w h x y : Int) (k : Str) (rest : List Mir), es = [.hand p c n, .int w, .int h, .imm (mirD (x, y, k)), .imm (mirsD rest)] ∧ n < 800000000 ∧ 1 ≤ w ∧ 1 ≤ h ∧ GoodMs w h ((x, y, k) :: rest) ∧ rest.length ≤ 200 ∧
  ∀ (rows : List Prt) (l : Addr) (n' : Nat), rows.length ≤ 2 → (∀ r ∈ rows, RowOk w h ((x, y, k) :: rest) r) → n' ≤ n + 2 → P (.own l (.lst (rows.map prD))) [.hand p c n', .int w, .int h, .imm (mirD (x, y, k)), .imm (mirsD rest)]
def conOthers : Con := fun es P _ => ∃ (p c : Addr) (n : Nat) (w h : Int) (ms : List Mir), es = [.hand p c n, .int w, .int h, .imm (mirsD ms)] ∧ n < 700000000 ∧ 1 ≤ w ∧ 1 ≤ h ∧ 2 < w + h ∧ GoodMs w h ms ∧ ms.length ≤ 200 ∧
  ∀ (rows : List Prt) (l : Addr) (n' : Nat), rows.length ≤ 20 → (∀ r ∈ rows, RowOk w h ms r) → n' ≤ n + 100 → P (.own l (.lst (rows.map prD))) [.hand p c n', .int w, .int h, .imm (mirsD ms)]
section
variable {P : Program} {w : World} {K : PySem.W.Frag} {mg : Str → Option Value} {base : Heap} {A : Ad}
theorem okd__law_agree (T : Txt K mg A) : FnOk P w K mg base (L2.CX P w) (3 + 1) A.f__law_agree A.d__law_agree P__law_agree (spD K (conAgree A)) := by
  have G_Board___eq__ := okd_Board___eq__ (P := P) (w := w) (base := base) T
  refine okD_fn T.F__law_agree sc__law_agree (fun es P PX h => ?_) (fun cdv A' outer s H I E es R PX hr fo hc => ?_)
  · obtain ⟨w', h', ms, w2, h2, ns, due, rfl, _⟩ := h
    rfl
  obtain ⟨w', h', ms, w2, h2, ns, due, rfl, e1, e2, hP⟩ := hc
  have hu := hu_of hr
  refine ⟨_, (dss_cons (ds_if (dt_val (dv 2))
(dss_cons (ds_if (dt_w (dw_or (dt_cmp dor_isNotB (de_eqO (dv 0) (dv 1) G_Board___eq__ (hr.mono (by first | decide | omega)) T.m_Board___eq__ T.b_Board___eq__) de_bl (nomark _)) (dw_or1 (dt_cmp dor_isNotB (de_eqO (dv 1) (dv 0) G_Board___eq__ (hr.mono (by first | decide | omega)) T.m_Board___eq__ T.b_Board___eq__) de_bl (nomark _)))))
(dss_one (ds_ret de_bl))
dss_nil)
(dss_one (ds_ret (de_and (de_cmp dor_is (de_neX (dv 0) (dv 1) G_Board___eq__ (hr.mono (by first | decide | omega)) T.m_Board___eq__ T.ne_Board T.i4_Board T.b_Board___eq__) de_bl (nomark _)) (de_one (de_cmp dor_is (de_neX (dv 1) (dv 0) G_Board___eq__ (hr.mono (by first | decide | omega)) T.m_Board___eq__ T.ne_Board T.i4_Board T.b_Board___eq__) de_bl (nomark _)))))))
dss_nil)
(dss_cons (ds_if (dt_w (dw_or (dt_cmp dor_isNotB (de_eqO (dv 0) (dv 1) G_Board___eq__ (hr.mono (by first | decide | omega)) T.m_Board___eq__ T.b_Board___eq__) de_bl (nomark _)) (dw_or1 (dt_cmp dor_isNotB (de_eqO (dv 1) (dv 0) G_Board___eq__ (hr.mono (by first | decide | omega)) T.m_Board___eq__ T.b_Board___eq__) de_bl (nomark _)))))
(dss_one (ds_ret de_bl))
dss_nil)
(dss_one (ds_ret (de_and (de_cmp dor_is (de_neX (dv 0) (dv 1) G_Board___eq__ (hr.mono (by first | decide | omega)) T.m_Board___eq__ T.ne_Board T.i4_Board T.b_Board___eq__) de_bl (nomark _)) (de_one (de_cmp dor_is (de_neX (dv 1) (dv 0) G_Board___eq__ (hr.mono (by first | decide | omega)) T.m_Board___eq__ T.ne_Board T.i4_Board T.b_Board___eq__) de_bl (nomark _)))))))), ?_⟩
  walk_at "dy"
  cases due with
  | true =>
    refine ite_t rfl ?_
    walk_at "ds"
    refine ⟨_, _, ms, _, _, ns, rfl, ?_⟩
    rw [e1]
    walk_at "ds"
    refine ite_nd (fun c => absurd rfl c) fun _ => ?_
    walk_at "ds"
    refine ⟨_, _, ns, _, _, ms, rfl, ?_⟩
    rw [e2]
    walk_at "ds"
    refine ite_nd (fun c => absurd rfl c) fun _ => ?_
    walk_at "ds"
    refine ⟨_, _, _, _, rfl, rfl, nofst_brd T, ?_⟩
    walk_at "ds"
    refine ⟨_, _, ms, _, _, ns, rfl, ?_⟩
    rw [e1]
    walk_at "ds"
    refine ite_t rfl ?_
    walk_at "ds"
    refine ⟨_, _, _, _, rfl, rfl, nofst_brd T, ?_⟩
    walk_at "ds"
    refine ⟨_, _, ns, _, _, ms, rfl, ?_⟩
    rw [e2]
    walk_at "ds"
    exact hP
  | false =>
    refine ite_f (by decide) ?_
    walk_at "ds"
    refine ⟨_, _, ms, _, _, ns, rfl, ?_⟩
    rw [e1]
    walk_at "ds"
    refine ite_nd (fun c => absurd rfl c) fun _ => ?_
    walk_at "ds"
    refine ⟨_, _, ns, _, _, ms, rfl, ?_⟩
    rw [e2]
    walk_at "ds"
    refine ite_nd (fun c => absurd rfl c) fun _ => ?_
    walk_at "ds"
    refine ⟨_, _, _, _, rfl, rfl, nofst_brd T, ?_⟩
    walk_at "ds"
    refine ⟨_, _, ms, _, _, ns, rfl, ?_⟩
    rw [e1]
    walk_at "ds"
    refine ite_t rfl ?_
    walk_at "ds"
    refine ⟨_, _, _, _, rfl, rfl, nofst_brd T, ?_⟩
    walk_at "ds"
    refine ⟨_, _, ns, _, _, ms, rfl, ?_⟩
    rw [e2]
    walk_at "ds"
    exact hP
end

end

section
local macro_rules | `(tactic| walk_at "al") => `(tactic| first
  | omega
  | exact Or.inl (Or.inl ⟨by omega, by omega⟩)
  | exact Or.inl (Or.inr ⟨by omega, by omega⟩)
  | exact ⟨by omega, Or.inl (by omega)⟩
  | exact ⟨by omega, by omega, by omega, by omega⟩
  | exact ⟨by decide, by decide, by decide⟩)
local macro_rules | `(tactic| walk_at "bk") => `(tactic| repeat (first | exact BackE.nil | apply BackE.imm | apply BackE.own | apply BackE.hand))
local macro_rules | `(tactic| walk_at "ds1") => `(tactic| first
  | ((with_reducible refine' s_vi ?ee_ ?_); (case ee_ => rfl))
  | ((with_reducible refine' s_vs ?ee_ ?_); (case ee_ => rfl))
  | with_reducible refine s_c ?_
  | with_reducible refine s_aN ?_
  | with_reducible refine s_aC ?_
  | with_reducible refine s_op ?_
  | ((with_reducible refine' x_val2 ?ee_ ?ff_ ?_); (case ee_ => rfl); (case ff_ => rfl))
  | ((with_reducible refine' x_bl ?ee_ ?_); (case ee_ => rfl))
  | ((with_reducible refine' x_int ?ee_ ?_); (case ee_ => rfl))
  | ((with_reducible refine' x_val ?ee_ ?_); (case ee_ => rfl))
  | ((with_reducible refine' x_vals ?ee_ ?_); (case ee_ => rfl))
  | ((with_reducible refine' x_frzs ?ee_ ?ll_ ?_); (case ee_ => rfl); (case ll_ => rfl))
  | ((with_reducible refine' x_frzO ?ee_ ?_); (case ee_ => rfl))
  | ((with_reducible refine' x_frz2 ?ee_ ?ff_ ?_); (case ee_ => rfl); (case ff_ => rfl))
  | ((with_reducible refine' x_frz ?ee_ ?_); (case ee_ => rfl))
  | ((with_reducible refine' x_asg ?ee_ ?_); (case ee_ => rfl))
  | with_reducible refine o_addI ?_
  | with_reducible refine o_subI ?_
  | ((with_reducible refine' o_mulI ?cc_ ?_); (case cc_ => walk_at "al"))
  | ((with_reducible refine' o_divI ?cc_ ?_); (case cc_ => walk_at "al"))
  | ((with_reducible refine' o_modI ?cc_ ?_); (case cc_ => walk_at "al"))
  | ((with_reducible refine' o_powI ?cc_ ?_); (case cc_ => walk_at "al"))
  | with_reducible refine o_andI ?_
  | with_reducible refine o_ltI ?_
  | with_reducible refine o_leI ?_
  | with_reducible refine o_gtI ?_
  | with_reducible refine o_geI ?_
  | with_reducible refine o_eqI ?_
  | with_reducible refine o_eqS ?_
  | with_reducible refine o_eqP ?_
  | with_reducible refine o_neI ?_
  | with_reducible refine o_neS ?_
  | with_reducible refine o_isN' ?_
  | with_reducible refine o_isB' ?_
  | with_reducible refine o_notN' ?_
  | ((with_reducible refine' o_ixT ?ee_ ?ff_ ?_); (case ee_ => first | rfl | assumption); (case ff_ => first | rfl | assumption))
  | ((with_reducible refine' o_ixL ?ee_ ?ff_ ?_); (case ee_ => first | rfl | assumption); (case ff_ => first | rfl | assumption))
  | with_reducible refine o_slL ?_
  | with_reducible refine o_slT ?_
  | with_reducible refine s_dnT ?_
  | with_reducible refine s_dnK ?_
  | with_reducible refine o_neP ?_
  | with_reducible refine o_neC ?_
  | ((with_reducible refine' o_fld ?ee_ ?_); (case ee_ => rfl))
  | with_reducible refine o_lenL ?_
  | with_reducible refine o_lenT ?_
  | with_reducible refine o_lenF ?_
  | with_reducible refine o_lenD ?_
  | with_reducible refine o_int ?_
  | with_reducible refine o_abs ?_
  | with_reducible refine o_max ?_
  | with_reducible refine o_min ?_
  | with_reducible refine o_list ?_
  | ((with_reducible refine' o_inT ?ee_ ?_); (case ee_ => rfl))
  | ((with_reducible refine' o_ninT ?ee_ ?_); (case ee_ => rfl))
  | with_reducible refine o_neg ?_
  | ((with_reducible refine' o_inF ?ee_ ?_); (case ee_ => rfl))
  | ((with_reducible refine' o_ninF ?ee_ ?_); (case ee_ => rfl))
  | with_reducible refine s_tup ?_
  | with_reducible refine s_lst ?_
  | with_reducible refine s_un ?_
  | with_reducible refine s_cl ?_
  | with_reducible refine s_test ?_
  | with_reducible refine s_and ?_
  | with_reducible refine s_or ?_
  | with_reducible refine s_not ?_
  | with_reducible refine s_andV ?_
  | with_reducible refine s_orV ?_
  | with_reducible refine s_notV ?_
  | with_reducible refine s_ifV ?_
  | with_reducible refine s_chain ?_
  | with_reducible refine x_ib ?_
  | with_reducible refine s_pN ?_
  | with_reducible refine s_pS ?_
  | with_reducible refine s_sl ?_
  | with_reducible refine s_sameL ?_
  | with_reducible refine o_isNB ?_
  | with_reducible refine s_fz ?_
  | with_reducible refine o_ixH ?_
  | ((with_reducible refine' x_noa ?ee_ ?_); (case ee_ => rfl))
  | ((with_reducible refine' x_lenN ?ee_ ?ff_ ?_); (case ee_ => omega); (case ff_ => omega))
  | ((with_reducible refine' x_le1000 ?ee_ ?_); (case ee_ => rfl))
  | with_reducible refine s_call ?_
  | ((with_reducible refine' x_con ?ee_ ?ff_ ?_); (case ee_ => rfl); (case ff_ => rfl))
  | ((with_reducible refine' s_callD ?ee_ ?ff_ ?_); (case ee_ => rfl); (case ff_ => rfl))
  | ((with_reducible refine' x_back ?ll_ ?ee_ ?_); (case ll_ => rfl); (case ee_ => rfl))
  | ((with_reducible refine' x_back1 ?ee_ ?_); (case ee_ => rfl))
  | with_reducible refine s_gaN ?_
  | with_reducible refine s_gaV ?_
  | ((with_reducible refine' s_gaR ?ee_ ?_); (case ee_ => rfl))
  | with_reducible refine s_meth ?_
  | with_reducible refine s_meth0 ?_
  | with_reducible refine s_methK ?_
  | with_reducible refine s_makeK ?_
  | ((with_reducible refine' x_frzsK ?ee_ ?ll_ ?_); (case ee_ => rfl); (case ll_ => rfl))
  | with_reducible refine s_prop ?_
  | with_reducible refine s_make ?_
  | with_reducible refine s_own2 ?_
  | with_reducible refine s_eqX ?_
  | with_reducible refine s_neX ?_
  | with_reducible refine s_rev ?_
  | with_reducible refine x_nb ?_
  | ((with_reducible refine' x_rev ?ee_ ?ff_ ?_); (case ee_ => rfl); (case ff_ => rfl))
  | with_reducible refine s_lenO ?_
  | ((with_reducible refine' s_mut ?ee_ ?_); (case ee_ => rfl))
  | ((with_reducible refine' x_mut ?ee_ ?ff_ ?_); (case ee_ => rfl); (case ff_ => rfl))
  | ((with_reducible refine' s_mut0 ?ee_ ?_); (case ee_ => rfl))
  | with_reducible refine m_clr ?_
  | with_reducible refine m_rev ?_
  | with_reducible refine s_dget ?_
  | with_reducible refine s_dget1 ?_
  | with_reducible refine s_dget2 ?_
  | ((with_reducible refine' x_isT ?ee_ ?_); (case ee_ => rfl))
  | ((with_reducible refine' x_isK ?ee_ ?_); (case ee_ => rfl))
  | ((with_reducible refine' x_get2 ?ee_ ?ff_ ?gg_ ?_); (case ee_ => rfl); (case ff_ => rfl); (case gg_ => rfl))
  | with_reducible refine s_din ?_
  | with_reducible refine s_dnin ?_
  | ((with_reducible refine' s_lookT ?ee_ ?_); (case ee_ => rfl))
  | ((with_reducible refine' s_lookK ?ee_ ?_); (case ee_ => rfl))
  | with_reducible refine s_seq ?_
  | with_reducible refine s_set ?_
  | with_reducible refine s_ret ?_
  | with_reducible refine s_retN ?_
  | with_reducible refine s_if ?_
  | with_reducible refine s_next ?_
  | with_reducible refine s_drop ?_
  | with_reducible refine s_brk ?_
  | with_reducible refine s_cnt ?_
  | with_reducible refine s_asg ?_
  | with_reducible refine s_raise ?_
  | with_reducible refine s_setIx ?_
  | ((with_reducible refine' s_gN ?ee_ ?_); (case ee_ => rfl))
  | with_reducible refine s_gNl ?_
  | with_reducible refine s_gCn ?_
  | ((with_reducible refine' s_gT ?ee_ ?_); (case ee_ => rfl))
  | ((with_reducible refine' s_gL ?ee_ ?_); (case ee_ => rfl))
  | with_reducible refine s_for ?_
  | with_reducible refine s_wSeq ?_
  | ((with_reducible refine' x_items ?ee_ ?ff_ ?_); (case ee_ => rfl); (case ff_ => rfl))
  | with_reducible refine s_rng1 ?_
  | ((with_reducible refine' x_rng1 ?ee_ ?aa_ ?bb_ ?_); (case ee_ => rfl); (case aa_ => omega); (case bb_ => omega))
  | with_reducible refine s_rng2 ?_
  | ((with_reducible refine' x_rng2 ?ee_ ?aa_ ?_); (case ee_ => rfl); (case aa_ => exact ⟨by omega, by omega, by omega, by omega⟩))
  | with_reducible refine s_enum ?_
  | ((with_reducible refine' x_enum ?ee_ ?_); (case ee_ => rfl))
  | with_reducible refine s_lc ?_
  | with_reducible refine s_lcG ?_
  | ((with_reducible refine' s_lcV ?ee_ ?ff_ ?_); (case ee_ => rfl); (case ff_ => rfl))
  | ((with_reducible refine' s_forV ?ee_ ?_); (case ee_ => rfl))
  | ((with_reducible refine' x_clear ?ee_ ?_); (case ee_ => rfl))
  | with_reducible refine s_yes ?_
  | ((with_reducible refine' s_end ?ee_ ?bb_ ?_); (case ee_ => rfl); (case bb_ => walk_at "bk"))
  | ((with_reducible refine' x_pxT ?ee_ ?_); (case ee_ => assumption))
  | with_reducible refine x_got rfl ?_
  | with_reducible refine x_in0 ?_
  | with_reducible refine x_inS ?_
  | ((with_reducible refine' s_gVal ?ee_ ?_); (case ee_ => rfl))
  | ((with_reducible refine' s_gTag ?ee_ ?_); (case ee_ => rfl))
  | ((with_reducible refine' x_px ?bb_ ?_); (case bb_ => walk_at "bk"))
  | ((with_reducible refine' s_endN ?bb_ ?_); (case bb_ => walk_at "bk"))
  | with_reducible refine iteT ?_
  | with_reducible refine iteF ?_
  | with_reducible refine r_iteNf ?_
  | with_reducible refine r_iteNt ?_)
local macro_rules | `(tactic| walk_at "ds") => `(tactic| (repeat' (walk_at "ds1")))
set_option hygiene false in
local macro_rules | `(tactic| walk_at "dx") => `(tactic| (repeat' (first | walk_at "ds1" | with_reducible refine (fun (a : Addr) => ?_ : ∀ _ : Addr, _) | with_reducible refine ite_d (fun c => ?_) (fun c => ?_) | with_reducible refine ite_nd (fun c => ?_) (fun c => ?_) | with_reducible refine ite_nb (fun c => ?_) (fun c => ?_) | with_reducible refine ite_b (fun c => ?_) (fun c => ?_))))
set_option hygiene false in
local macro_rules | `(tactic| walk_at "dy") => `(tactic| (repeat' (first | walk_at "ds1" | with_reducible refine (fun (a : Addr) => ?_ : ∀ _ : Addr, _))))
section
variable {P : Program} {w : World} {K : PySem.W.Frag} {mg : Str → Option Value} {base : Heap} {A : Ad}
theorem okd__law_exchanged (T : Txt K mg A) : FnOk P w K mg base (L2.CX P w) (2 + 1) A.f__law_exchanged A.d__law_exchanged P__law_exchanged (spD K conExch) := by
  have G__law_take := okd__law_take (P := P) (w := w) (base := base) T
  refine okD_fn T.F__law_exchanged sc__law_exchanged (fun es P PX h => ?_) (fun cdv A' outer s H I E es R PX hr fo hc => ?_)
  · obtain ⟨p, q, n, w', h', x, y, k, rest, rfl, _⟩ := h
    rfl
  obtain ⟨p, q, n, w', h', x, y, k, rest, rfl, hn, hw, hh', gd, hml, hP⟩ := hc
  have hu := hu_of hr
  refine ⟨_, (dss_cons (ds_asg (dv 3) (dg_tup (n := 3) rfl (dgs_cons (dg_name (i := 5) sc__law_exchanged.nd rfl (Or.inr rfl)) (dgs_cons (dg_name (i := 6) sc__law_exchanged.nd rfl (Or.inr rfl)) (dgs_cons (dg_name (i := 7) sc__law_exchanged.nd rfl (Or.inr rfl)) dgs_nil)))))
(dss_cons (ds_set (i := 8) sc__law_exchanged.nd rfl (Or.inl rfl) (de_lst da_nil))
(dss_cut (ds_setLc (i := 9) (own := [("_law_row", 16)]) (by rfl) sc__law_exchanged.nd rfl rfl (sw_true rfl rfl rfl (by decide +kernel)) (di_seq (dv 4)) (blkOk_by (own := [("_law_row", 16)]) (N := N__law_exchanged) (sc := defScope s__law_exchanged) (by decide +kernel)) (fun _ _ _ _ _ => by exact (dg_name (i := 16) sc__law_exchanged.nd rfl (Or.inl rfl))) (fun _ _ _ _ _ => by exact (dts_one (dt_cmp (dor_ne hr.units) (de_ix dix (dv 16) de_int) (dv 7) (nomark _)))) (fun _ _ _ _ _ => by exact (dv 16)) (by rfl))
(dss_cut (ds_if (dt_cmp dor_gt (de_blt dcr_len (by rfl) T.n_len (by decide +kernel) (da_cons (dv 9) da_nil)) de_int (nomark _))
(dss_cons (ds_asg (de_ix dix (dv 9) (de_call G__law_take (hr.mono (by first | decide | omega)) rfl T.g__law_take T.k__law_take T.b__law_take (takes_of rfl rfl rfl rfl) fo (gr 0 (dg_v (de_blt dcr_len (by rfl) T.n_len (by decide +kernel) (da_cons (dv 9) da_nil)) dg_nil)))) (dg_tup (n := 3) rfl (dgs_cons (dg_name (i := 10) sc__law_exchanged.nd rfl (Or.inr rfl)) (dgs_cons (dg_name (i := 11) sc__law_exchanged.nd rfl (Or.inr rfl)) (dgs_cons (dg_name (i := 12) sc__law_exchanged.nd rfl (Or.inl rfl)) dgs_nil)))))
(dss_cut (ds_setLc (i := 13) (own := [("_law_row", 16)]) (by rfl) sc__law_exchanged.nd rfl rfl (sw_true rfl rfl rfl (by decide +kernel)) (di_seq (dv 4)) (blkOk_by (own := [("_law_row", 16)]) (N := N__law_exchanged) (sc := defScope s__law_exchanged) (by decide +kernel)) (fun _ _ _ _ _ => by exact (dg_name (i := 16) sc__law_exchanged.nd rfl (Or.inl rfl))) (fun _ _ _ _ _ => by exact (dts_one (dt_cmp (dor_ne hr.units) (de_tup (da_cons (de_ix dix (dv 16) de_int) (da_cons (de_ix dix (dv 16) de_int) da_nil))) (de_tup (da_cons (dv 10) (da_cons (dv 11) da_nil))) (nomark _)))) (fun _ _ _ _ _ => by exact (dv 16)) (by rfl))
(dss_one (ds_expr (de_mut PySem.F.slot_list_append PySem.F.type_list_append mt_append dm_append (pv 8) (da_cons (de_tup (da_cons (dv 1) (da_cons (dv 2) (da_cons (de_op dor_add (dv 13) (de_lst (da_cons (de_tup (da_cons (dv 5) (da_cons (dv 6) (da_cons (dv 12) da_nil)))) (da_cons (de_tup (da_cons (dv 10) (da_cons (dv 11) (da_cons (dv 7) da_nil)))) da_nil)))) da_nil)))) da_nil))))))
dss_nil)
(dss_cut (ds_set (i := 14) sc__law_exchanged.nd rfl (Or.inr rfl) (de_lc (own := [("_law_row", 16)]) (by rfl) sc__law_exchanged.nd (di_seq (dv 4)) (blkOk_by (own := [("_law_row", 16)]) (N := N__law_exchanged) (sc := defScope s__law_exchanged) (by decide +kernel)) (fun _ _ _ _ _ => by exact (dg_name (i := 16) sc__law_exchanged.nd rfl (Or.inl rfl))) (fun _ _ _ _ _ => by exact dts_nil) (fun _ _ _ _ _ => by exact (de_tup (da_cons (de_ix dix (dv 16) de_int) (da_cons (de_ix dix (dv 16) de_int) da_nil)))) (by rfl)))
(dss_cut (ds_setLc (i := 15) (own := [("_law_row", 16)]) (by rfl) sc__law_exchanged.nd rfl rfl (sw_true rfl rfl rfl (by decide +kernel)) (di_seq (dv 4)) (blkOk_by (own := [("_law_row", 16)]) (N := N__law_exchanged) (sc := defScope s__law_exchanged) (by decide +kernel)) (fun _ _ _ _ _ => by exact (dg_name (i := 16) sc__law_exchanged.nd rfl (Or.inl rfl))) (fun _ _ _ _ _ => by exact (dts_one (dt_w (dw_and (dt_cmp (dor_ne hr.units) (de_ix dix (dv 16) de_int) (dv 5) (nomark _)) (dw_and (dt_cmp (dor_ne hr.units) (de_ix dix (dv 16) de_int) (dv 6) (nomark _)) (dw_and1 (dt_cmp (dor_eq hr.units) (de_op dor_mod (de_typ dcr_int (by rfl) T.n_int (by decide +kernel) (da_cons (de_op dor_add (dv 5) (de_ix dix (dv 16) de_int)) da_nil)) de_int) de_int (nomark _)))))))) (fun _ _ _ _ _ => by exact (dv 16)) (by rfl))
(dss_cut (ds_setLc (i := 15) (own := [("_law_row", 16)]) (by rfl) sc__law_exchanged.nd rfl rfl (sw_true rfl rfl rfl (by decide +kernel)) (di_seq (dv 15)) (blkOk_by (own := [("_law_row", 16)]) (N := N__law_exchanged) (sc := defScope s__law_exchanged) (by decide +kernel)) (fun _ _ _ _ _ => by exact (dg_name (i := 16) sc__law_exchanged.nd rfl (Or.inl rfl))) (fun _ _ _ _ _ => by exact (dts_one (dt_w (dw_and (dt_cmp (dor_nin (hu65_of hr)) (de_tup (da_cons (dv 5) (da_cons (de_ix dix (dv 16) de_int) da_nil))) (dv 14) (by rfl)) (dw_and1 (dt_cmp (dor_nin (hu65_of hr)) (de_tup (da_cons (de_ix dix (dv 16) de_int) (da_cons (dv 6) da_nil))) (dv 14) (by rfl))))))) (fun _ _ _ _ _ => by exact (dv 16)) (by rfl))
(dss_cons (ds_if (dt_cmp dor_gt (de_blt dcr_len (by rfl) T.n_len (by decide +kernel) (da_cons (dv 15) da_nil)) de_int (nomark _))
(dss_cons (ds_asg (de_ix dix (dv 15) (de_call G__law_take (hr.mono (by first | decide | omega)) rfl T.g__law_take T.k__law_take T.b__law_take (takes_of rfl rfl rfl rfl) fo (gr 0 (dg_v (de_blt dcr_len (by rfl) T.n_len (by decide +kernel) (da_cons (dv 15) da_nil)) dg_nil)))) (dg_tup (n := 3) rfl (dgs_cons (dg_name (i := 10) sc__law_exchanged.nd rfl (Or.inr rfl)) (dgs_cons (dg_name (i := 11) sc__law_exchanged.nd rfl (Or.inr rfl)) (dgs_cons (dg_name (i := 12) sc__law_exchanged.nd rfl (Or.inl rfl)) dgs_nil)))))
(dss_cut (ds_setLc (i := 13) (own := [("_law_row", 16)]) (by rfl) sc__law_exchanged.nd rfl rfl (sw_true rfl rfl rfl (by decide +kernel)) (di_seq (dv 4)) (blkOk_by (own := [("_law_row", 16)]) (N := N__law_exchanged) (sc := defScope s__law_exchanged) (by decide +kernel)) (fun _ _ _ _ _ => by exact (dg_name (i := 16) sc__law_exchanged.nd rfl (Or.inl rfl))) (fun _ _ _ _ _ => by exact (dts_one (dt_cmp (dor_ne hr.units) (de_tup (da_cons (de_ix dix (dv 16) de_int) (da_cons (de_ix dix (dv 16) de_int) da_nil))) (de_tup (da_cons (dv 10) (da_cons (dv 11) da_nil))) (nomark _)))) (fun _ _ _ _ _ => by exact (dv 16)) (by rfl))
(dss_one (ds_expr (de_mut PySem.F.slot_list_append PySem.F.type_list_append mt_append dm_append (pv 8) (da_cons (de_tup (da_cons (dv 1) (da_cons (dv 2) (da_cons (de_op dor_add (dv 13) (de_lst (da_cons (de_tup (da_cons (dv 5) (da_cons (dv 11) (da_cons (dv 7) da_nil)))) (da_cons (de_tup (da_cons (dv 10) (da_cons (dv 6) (da_cons (dv 12) da_nil)))) da_nil)))) da_nil)))) da_nil))))))
dss_nil)
(dss_one (ds_ret (dv 8))))))))))), ?_⟩
  walk_at "dy"
  refine s_cut (fun e => ∃ (l v9A : Addr) (L : List Mir), e = [some (.hand p q n), some (.int w'), some (.int h'), some (.imm (mirD (x, y, k))), some (.imm (mirsD rest)), some (.int x), some (.int y), some (.imm (.str k)), some (.own l (.lst [])), some (.own v9A (mirsD L)), none, none, none, none, none, none, none] ∧ (∀ m ∈ L, m ∈ rest ∧ m.2.2 ≠ k) ∧ L.length ≤ rest.length) ?_ ?_
  · walk_at "dx"
    dsimp only
    refine ⟨by rw [List.length_map]; omega, fun j acc => ∃ L : List Mir, acc = L.map mirD ∧ (∀ m ∈ L, m ∈ rest ∧ m.2.2 ≠ k) ∧ L.length ≤ j, ⟨[], rfl, by simp, by simp⟩, ?_, ?_⟩
    · rintro j c acc hc ⟨L, rfl, hL, hLl⟩
      obtain ⟨z, hz, rfl⟩ := map_get hc
      have hzr : z ∈ rest := List.mem_of_getElem? hz
      walk_at "dx"
      · refine ⟨rfl, L ++ [z], by rw [List.map_append]; rfl, fun m hm => ?_, by rw [List.length_append]; simp; omega⟩
        rcases List.mem_append.mp hm with hm | hm
        · exact hL m hm
        · rw [List.mem_singleton] at hm
          subst hm
          exact ⟨hzr, by simpa using c⟩
      · exact ⟨rfl, L, rfl, hL, by omega⟩
    rintro acc ⟨L, rfl, hL, hLl⟩
    rw [List.length_map] at hLl
    walk_at "dx"
    exact ⟨_, _, L, rfl, hL, hLl⟩
  rintro e ⟨l0, v9A, L, rfl, hL, hLl⟩
  refine s_cut (fun e => ∃ (n1 : Nat) (rows : List Prt) (l : Addr) (v9 v10 v11 v12 v13 : Option Ent), e = [some (.hand p q n1), some (.int w'), some (.int h'), some (.imm (mirD (x, y, k))), some (.imm (mirsD rest)), some (.int x), some (.int y), some (.imm (.str k)), some (.own l (.lst (rows.map prD))), v9, v10, v11, v12, v13, none, none, none] ∧ n1 ≤ n + 1 ∧ rows.length ≤ 1 ∧ ∀ r ∈ rows, RowOk w' h' ((x, y, k) :: rest) r) ?_ ?_
  · walk_at "dx"
    · have hpos : 0 < L.length := by
        have c' : (0 : Int) < ((L.map mirD).length : Nat) := by assumption
        rw [List.length_map] at c'
        omega
      refine ⟨p, q, n, _, rfl, by omega, by rw [List.length_map]; omega, by rw [List.length_map]; omega, fun t t0 t1 => ?_⟩
      rw [List.length_map] at t1
      obtain ⟨m, hm⟩ : ∃ m, L[t.toNat]? = some m := ⟨_, List.getElem?_eq_getElem (by omega)⟩
      have k1 : ixN (L.map mirD).length t = some t.toNat := by
        have z := ixN_at (n := (L.map mirD).length) (i := t.toNat) (by rw [List.length_map]; omega)
        rw [show (0 : Int) + (t.toNat : Int) = t by omega] at z
        exact z
      have k2 := at_map (f := mirD) hm
      obtain ⟨hmr, hmk⟩ := hL m (List.mem_of_getElem? hm)
      walk_at "dx"
      refine s_cut (fun e => ∃ v9 v13, e = [some (.hand p q (n + 1)), some (.int w'), some (.int h'), some (.imm (mirD (x, y, k))), some (.imm (mirsD rest)), some (.int x), some (.int y), some (.imm (.str k)), some (.own l0 (.lst [])), v9, some (.int m.1), some (.int m.2.1), some (.imm (.str m.2.2)), some (.own v13 (mirsD (rest.filter fun z => !atB m.1 m.2.1 z))), none, none, none]) ?_ ?_
      · walk_at "dx"
        dsimp only
        refine ⟨by rw [List.length_map]; omega, fun j acc => acc = ((rest.take j).filter fun z => !atB m.1 m.2.1 z).map mirD, rfl, ?_, ?_⟩
        · rintro j c acc hc rfl
          obtain ⟨z, hz, rfl⟩ := map_get hc
          walk_at "dx"
          · refine ⟨rfl, ?_⟩
            dsimp only
            rw [take_suc hz, List.filter_append, List.map_append, List.filter_cons_of_pos (by unfold atB; rw [decide_eq_false c]; rfl)]
            rfl
          · refine ⟨rfl, ?_⟩
            dsimp only
            rw [take_suc hz, List.filter_append, List.filter_cons_of_neg (by unfold atB; rw [decide_eq_true c]; simp)]
            simp
        rintro acc rfl
        rw [List.length_map, List.take_length]
        walk_at "dx"
        exact ⟨_, _, rfl⟩
      rintro e ⟨v9, v13, rfl⟩
      walk_at "dx"
      refine o_addL (by rw [List.length_map]; exact Nat.le_trans (Nat.add_le_add_right (Nat.le_trans (List.length_filter_le _ _) hml) 2) (by decide)) fun a1 => ?_
      rw [show (D.lst ((rest.filter fun z => !atB m.1 m.2.1 z).map mirD ++ [D.tup [.int x, .int y, .str m.2.2], D.tup [.int m.1, .int m.2.1, .str k]])) = mirsD ((rest.filter fun z => !atB m.1 m.2.1 z) ++ [(x, y, m.2.2), (m.1, m.2.1, k)]) by unfold mirsD; rw [List.map_append]; rfl]
      walk_at "dx"
      refine m_app (by simp) ?_
      walk_at "dx"
      refine ⟨n + 1, [(w', h', (rest.filter fun z => !atB m.1 m.2.1 z) ++ [(x, y, m.2.2), (m.1, m.2.1, k)])], _, _, _, _, _, _, rfl, by omega, by simp, fun r hr => ?_⟩
      rw [List.mem_singleton] at hr
      subst hr
      exact row_exch gd hw hh' hml hmr hmk
    · exact ⟨n, [], _, _, _, _, _, _, rfl, by omega, by simp, by simp⟩
  rintro e ⟨n1, rows, l, v9, v10, v11, v12, v13, rfl, hn1, hrl, hrows⟩
  refine s_cut (fun e => ∃ a14, e = [some (.hand p q n1), some (.int w'), some (.int h'), some (.imm (mirD (x, y, k))), some (.imm (mirsD rest)), some (.int x), some (.int y), some (.imm (.str k)), some (.own l (.lst (rows.map prD))), v9, v10, v11, v12, v13, some (.own a14 (.lst ((rest.map mK).map ptOf))), none, none]) ?_ ?_
  · walk_at "dx"
    dsimp only
    refine ⟨by rw [List.length_map]; omega, fun j acc => acc = ((rest.take j).map mK).map ptOf, rfl, ?_, ?_⟩
    · rintro j c acc hc rfl
      obtain ⟨z, hz, rfl⟩ := map_get hc
      walk_at "dx"
      refine ⟨rfl, ?_⟩
      dsimp only
      rw [take_suc hz, List.map_append, List.map_append]
      rfl
    rintro acc rfl
    rw [List.length_map, List.take_length]
    walk_at "dx"
    exact ⟨_, rfl⟩
  rintro e ⟨a14, rfl⟩
  refine s_cut (fun e => ∃ a15 L, e = [some (.hand p q n1), some (.int w'), some (.int h'), some (.imm (mirD (x, y, k))), some (.imm (mirsD rest)), some (.int x), some (.int y), some (.imm (.str k)), some (.own l (.lst (rows.map prD))), v9, v10, v11, v12, v13, some (.own a14 (.lst ((rest.map mK).map ptOf))), some (.own a15 (mirsD L)), none] ∧ (∀ m ∈ L, m ∈ rest ∧ m.1 ≠ x ∧ m.2.1 ≠ y ∧ (x + m.2.1) % 2 = 1) ∧ L.length ≤ rest.length) ?_ ?_
  · walk_at "dx"
    dsimp only
    refine ⟨by rw [List.length_map]; omega, fun j acc => ∃ L : List Mir, acc = L.map mirD ∧ (∀ m ∈ L, m ∈ rest ∧ m.1 ≠ x ∧ m.2.1 ≠ y ∧ (x + m.2.1) % 2 = 1) ∧ L.length ≤ j, ⟨[], rfl, by simp, by simp⟩, ?_, ?_⟩
    · rintro j c acc hc ⟨L, rfl, hL, hLl⟩
      obtain ⟨z, hz, rfl⟩ := map_get hc
      have hzr : z ∈ rest := List.mem_of_getElem? hz
      walk_at "dx"
      · refine ⟨rfl, L ++ [z], by rw [List.map_append]; rfl, fun m hm => ?_, by rw [List.length_append]; simp; omega⟩
        rcases List.mem_append.mp hm with hm | hm
        · exact hL m hm
        · rw [List.mem_singleton] at hm
          subst hm
          exact ⟨hzr, by assumption, by assumption, c⟩
      all_goals exact ⟨rfl, L, rfl, hL, by omega⟩
    rintro acc ⟨L, rfl, hL, hLl⟩
    rw [List.length_map] at hLl
    walk_at "dx"
    exact ⟨_, L, rfl, hL, hLl⟩
  rintro e ⟨a15, L2, rfl, hL2, hLl2⟩
  refine s_cut (fun e => ∃ v15 a15 L, e = [some (.hand p q n1), some (.int w'), some (.int h'), some (.imm (mirD (x, y, k))), some (.imm (mirsD rest)), some (.int x), some (.int y), some (.imm (.str k)), some (.own l (.lst (rows.map prD))), v9, v10, v11, v12, v13, v15, some (.own a15 (mirsD L)), none] ∧ (∀ m ∈ L, (m ∈ rest ∧ m.1 ≠ x ∧ m.2.1 ≠ y ∧ (x + m.2.1) % 2 = 1) ∧ (x, m.2.1) ∉ rest.map mK ∧ (m.1, y) ∉ rest.map mK) ∧ L.length ≤ rest.length) ?_ ?_
  · walk_at "dx"
    dsimp only
    refine ⟨by rw [List.length_map]; omega, fun j acc => ∃ L : List Mir, acc = L.map mirD ∧ (∀ m ∈ L, (m ∈ rest ∧ m.1 ≠ x ∧ m.2.1 ≠ y ∧ (x + m.2.1) % 2 = 1) ∧ (x, m.2.1) ∉ rest.map mK ∧ (m.1, y) ∉ rest.map mK) ∧ L.length ≤ j, ⟨[], rfl, by simp, by simp⟩, ?_, ?_⟩
    · rintro j c acc hc ⟨L, rfl, hL, hLl⟩
      obtain ⟨z, hz, rfl⟩ := map_get hc
      have hzr := hL2 z (List.mem_of_getElem? hz)
      walk_at "dx"
      refine o_ninPts (by rw [List.length_map]; omega) ?_
      walk_at "dx"
      · refine o_ninPts (by rw [List.length_map]; omega) ?_
        walk_at "dx"
        · refine ⟨rfl, L ++ [z], by rw [List.map_append]; rfl, fun m hm => ?_, by rw [List.length_append]; simp; omega⟩
          rcases List.mem_append.mp hm with hm | hm
          · exact hL m hm
          · rw [List.mem_singleton] at hm
            subst hm
            exact ⟨hzr, by assumption, c⟩
        · exact ⟨rfl, L, rfl, hL, by omega⟩
      · exact ⟨rfl, L, rfl, hL, by omega⟩
    rintro acc ⟨L, rfl, hL, hLl⟩
    rw [List.length_map] at hLl
    walk_at "dx"
    exact ⟨_, _, L, rfl, hL, by omega⟩
  rintro e ⟨v15, a15, L3, rfl, hL3, hLl3⟩
  walk_at "dx"
  · have hpos : 0 < L3.length := by
      have c' : (0 : Int) < ((L3.map mirD).length : Nat) := by assumption
      rw [List.length_map] at c'
      omega
    refine ⟨p, q, n1, _, rfl, by omega, by rw [List.length_map]; omega, by rw [List.length_map]; omega, fun t t0 t1 => ?_⟩
    rw [List.length_map] at t1
    obtain ⟨m, hm⟩ : ∃ m, L3[t.toNat]? = some m := ⟨_, List.getElem?_eq_getElem (by omega)⟩
    have k1 : ixN (L3.map mirD).length t = some t.toNat := by
      have z := ixN_at (n := (L3.map mirD).length) (i := t.toNat) (by rw [List.length_map]; omega)
      rw [show (0 : Int) + (t.toNat : Int) = t by omega] at z
      exact z
    have k2 := at_map (f := mirD) hm
    obtain ⟨⟨b1, b2, b3, b4⟩, b5, b6⟩ := hL3 m (List.mem_of_getElem? hm)
    walk_at "dx"
    refine s_cut (fun e => ∃ v13 v15, e = [some (.hand p q (n1 + 1)), some (.int w'), some (.int h'), some (.imm (mirD (x, y, k))), some (.imm (mirsD rest)), some (.int x), some (.int y), some (.imm (.str k)), some (.own l (.lst (rows.map prD))), v9, some (.int m.1), some (.int m.2.1), some (.imm (.str m.2.2)), some (.own v13 (mirsD (rest.filter fun z => !atB m.1 m.2.1 z))), v15, some (.own a15 (mirsD L3)), none]) ?_ ?_
    · walk_at "dx"
      dsimp only
      refine ⟨by rw [List.length_map]; omega, fun j acc => acc = ((rest.take j).filter fun z => !atB m.1 m.2.1 z).map mirD, rfl, ?_, ?_⟩
      · rintro j c acc hc rfl
        obtain ⟨z, hz, rfl⟩ := map_get hc
        walk_at "dx"
        · refine ⟨rfl, ?_⟩
          dsimp only
          rw [take_suc hz, List.filter_append, List.map_append, List.filter_cons_of_pos (by unfold atB; rw [decide_eq_false c]; rfl)]
          rfl
        · refine ⟨rfl, ?_⟩
          dsimp only
          rw [take_suc hz, List.filter_append, List.filter_cons_of_neg (by unfold atB; rw [decide_eq_true c]; simp)]
          simp
      rintro acc rfl
      rw [List.length_map, List.take_length]
      walk_at "dx"
      exact ⟨_, _, rfl⟩
    rintro e ⟨v13, v15, rfl⟩
    walk_at "dx"
    refine o_addL (by rw [List.length_map]; exact Nat.le_trans (Nat.add_le_add_right (Nat.le_trans (List.length_filter_le _ _) hml) 2) (by decide)) fun a1 => ?_
    rw [show (D.lst ((rest.filter fun z => !atB m.1 m.2.1 z).map mirD ++ [D.tup [.int x, .int m.2.1, .str k], D.tup [.int m.1, .int y, .str m.2.2]])) = mirsD ((rest.filter fun z => !atB m.1 m.2.1 z) ++ [(x, m.2.1, k), (m.1, y, m.2.2)]) by unfold mirsD; rw [List.map_append]; rfl]
    walk_at "dx"
    refine m_app (by rw [List.length_map]; omega) ?_
    walk_at "dx"
    rw [show rows.map prD ++ [D.tup [.int w', .int h', mirsD ((rest.filter fun z => !atB m.1 m.2.1 z) ++ [(x, m.2.1, k), (m.1, y, m.2.2)])]] = (rows ++ [(w', h', (rest.filter fun z => !atB m.1 m.2.1 z) ++ [(x, m.2.1, k), (m.1, y, m.2.2)])]).map prD by rw [List.map_append]; rfl]
    refine hP _ _ _ (by rw [List.length_append]; simp; omega) (fun r hr => ?_) (by omega)
    rcases List.mem_append.mp hr with hr | hr
    · exact hrows r hr
    · rw [List.mem_singleton] at hr
      subst hr
      exact row_across gd hw hh' hml b1 b2 b3 b4 b5 b6
  · exact hP rows l n1 (by omega) hrows (by omega)
end

end

section
local macro_rules | `(tactic| walk_at "al") => `(tactic| first
  | omega
  | exact Or.inl (Or.inl ⟨by omega, by omega⟩)
  | exact Or.inl (Or.inr ⟨by omega, by omega⟩)
  | exact ⟨by omega, Or.inl (by omega)⟩
  | exact ⟨by omega, by omega, by omega, by omega⟩
  | exact ⟨by decide, by decide, by decide⟩)
local macro_rules | `(tactic| walk_at "bk") => `(tactic| repeat (first | exact BackE.nil | apply BackE.imm | apply BackE.own | apply BackE.hand))
local macro_rules | `(tactic| walk_at "ds1") => `(tactic| first
  | ((with_reducible refine' s_vi ?ee_ ?_); (case ee_ => rfl))
  | ((with_reducible refine' s_vs ?ee_ ?_); (case ee_ => rfl))
  | with_reducible refine s_c ?_
  | with_reducible refine s_aN ?_
  | with_reducible refine s_aC ?_
  | with_reducible refine s_op ?_
  | ((with_reducible refine' x_val2 ?ee_ ?ff_ ?_); (case ee_ => rfl); (case ff_ => rfl))
  | ((with_reducible refine' x_bl ?ee_ ?_); (case ee_ => rfl))
  | ((with_reducible refine' x_int ?ee_ ?_); (case ee_ => rfl))
  | ((with_reducible refine' x_val ?ee_ ?_); (case ee_ => rfl))
  | ((with_reducible refine' x_vals ?ee_ ?_); (case ee_ => rfl))
  | ((with_reducible refine' x_frzs ?ee_ ?ll_ ?_); (case ee_ => rfl); (case ll_ => rfl))
  | ((with_reducible refine' x_frzO ?ee_ ?_); (case ee_ => rfl))
  | ((with_reducible refine' x_frz2 ?ee_ ?ff_ ?_); (case ee_ => rfl); (case ff_ => rfl))
  | ((with_reducible refine' x_frz ?ee_ ?_); (case ee_ => rfl))
  | ((with_reducible refine' x_asg ?ee_ ?_); (case ee_ => rfl))
  | with_reducible refine o_addI ?_
  | with_reducible refine o_subI ?_
  | ((with_reducible refine' o_mulI ?cc_ ?_); (case cc_ => walk_at "al"))
  | ((with_reducible refine' o_divI ?cc_ ?_); (case cc_ => walk_at "al"))
  | ((with_reducible refine' o_modI ?cc_ ?_); (case cc_ => walk_at "al"))
  | ((with_reducible refine' o_powI ?cc_ ?_); (case cc_ => walk_at "al"))
  | with_reducible refine o_andI ?_
  | with_reducible refine o_ltI ?_
  | with_reducible refine o_leI ?_
  | with_reducible refine o_gtI ?_
  | with_reducible refine o_geI ?_
  | with_reducible refine o_eqI ?_
  | with_reducible refine o_eqS ?_
  | with_reducible refine o_eqP ?_
  | with_reducible refine o_neI ?_
  | with_reducible refine o_neS ?_
  | with_reducible refine o_isN' ?_
  | with_reducible refine o_isB' ?_
  | with_reducible refine o_notN' ?_
  | ((with_reducible refine' o_ixT ?ee_ ?ff_ ?_); (case ee_ => first | rfl | assumption); (case ff_ => first | rfl | assumption))
  | ((with_reducible refine' o_ixL ?ee_ ?ff_ ?_); (case ee_ => first | rfl | assumption); (case ff_ => first | rfl | assumption))
  | with_reducible refine o_slL ?_
  | with_reducible refine o_slT ?_
  | with_reducible refine s_dnT ?_
  | with_reducible refine s_dnK ?_
  | with_reducible refine o_neP ?_
  | with_reducible refine o_neC ?_
  | ((with_reducible refine' o_fld ?ee_ ?_); (case ee_ => rfl))
  | with_reducible refine o_lenL ?_
  | with_reducible refine o_lenT ?_
  | with_reducible refine o_lenF ?_
  | with_reducible refine o_lenD ?_
  | with_reducible refine o_int ?_
  | with_reducible refine o_abs ?_
  | with_reducible refine o_max ?_
  | with_reducible refine o_min ?_
  | with_reducible refine o_list ?_
  | ((with_reducible refine' o_inT ?ee_ ?_); (case ee_ => rfl))
  | ((with_reducible refine' o_ninT ?ee_ ?_); (case ee_ => rfl))
  | with_reducible refine o_neg ?_
  | ((with_reducible refine' o_inF ?ee_ ?_); (case ee_ => rfl))
  | ((with_reducible refine' o_ninF ?ee_ ?_); (case ee_ => rfl))
  | with_reducible refine s_tup ?_
  | with_reducible refine s_lst ?_
  | with_reducible refine s_un ?_
  | with_reducible refine s_cl ?_
  | with_reducible refine s_test ?_
  | with_reducible refine s_and ?_
  | with_reducible refine s_or ?_
  | with_reducible refine s_not ?_
  | with_reducible refine s_andV ?_
  | with_reducible refine s_orV ?_
  | with_reducible refine s_notV ?_
  | with_reducible refine s_ifV ?_
  | with_reducible refine s_chain ?_
  | with_reducible refine x_ib ?_
  | with_reducible refine s_pN ?_
  | with_reducible refine s_pS ?_
  | with_reducible refine s_sl ?_
  | with_reducible refine s_sameL ?_
  | with_reducible refine o_isNB ?_
  | with_reducible refine s_fz ?_
  | with_reducible refine o_ixH ?_
  | ((with_reducible refine' x_noa ?ee_ ?_); (case ee_ => rfl))
  | ((with_reducible refine' x_lenN ?ee_ ?ff_ ?_); (case ee_ => omega); (case ff_ => omega))
  | ((with_reducible refine' x_le1000 ?ee_ ?_); (case ee_ => rfl))
  | with_reducible refine s_call ?_
  | ((with_reducible refine' x_con ?ee_ ?ff_ ?_); (case ee_ => rfl); (case ff_ => rfl))
  | ((with_reducible refine' s_callD ?ee_ ?ff_ ?_); (case ee_ => rfl); (case ff_ => rfl))
  | ((with_reducible refine' x_back ?ll_ ?ee_ ?_); (case ll_ => rfl); (case ee_ => rfl))
  | ((with_reducible refine' x_back1 ?ee_ ?_); (case ee_ => rfl))
  | with_reducible refine s_gaN ?_
  | with_reducible refine s_gaV ?_
  | ((with_reducible refine' s_gaR ?ee_ ?_); (case ee_ => rfl))
  | with_reducible refine s_meth ?_
  | with_reducible refine s_meth0 ?_
  | with_reducible refine s_methK ?_
  | with_reducible refine s_makeK ?_
  | ((with_reducible refine' x_frzsK ?ee_ ?ll_ ?_); (case ee_ => rfl); (case ll_ => rfl))
  | with_reducible refine s_prop ?_
  | with_reducible refine s_make ?_
  | with_reducible refine s_own2 ?_
  | with_reducible refine s_eqX ?_
  | with_reducible refine s_neX ?_
  | with_reducible refine s_rev ?_
  | with_reducible refine x_nb ?_
  | ((with_reducible refine' x_rev ?ee_ ?ff_ ?_); (case ee_ => rfl); (case ff_ => rfl))
  | with_reducible refine s_lenO ?_
  | ((with_reducible refine' s_mut ?ee_ ?_); (case ee_ => rfl))
  | ((with_reducible refine' x_mut ?ee_ ?ff_ ?_); (case ee_ => rfl); (case ff_ => rfl))
  | ((with_reducible refine' s_mut0 ?ee_ ?_); (case ee_ => rfl))
  | with_reducible refine m_clr ?_
  | with_reducible refine m_rev ?_
  | with_reducible refine s_dget ?_
  | with_reducible refine s_dget1 ?_
  | with_reducible refine s_dget2 ?_
  | ((with_reducible refine' x_isT ?ee_ ?_); (case ee_ => rfl))
  | ((with_reducible refine' x_isK ?ee_ ?_); (case ee_ => rfl))
  | ((with_reducible refine' x_get2 ?ee_ ?ff_ ?gg_ ?_); (case ee_ => rfl); (case ff_ => rfl); (case gg_ => rfl))
  | with_reducible refine s_din ?_
  | with_reducible refine s_dnin ?_
  | ((with_reducible refine' s_lookT ?ee_ ?_); (case ee_ => rfl))
  | ((with_reducible refine' s_lookK ?ee_ ?_); (case ee_ => rfl))
  | with_reducible refine s_seq ?_
  | with_reducible refine s_set ?_
  | with_reducible refine s_ret ?_
  | with_reducible refine s_retN ?_
  | with_reducible refine s_if ?_
  | with_reducible refine s_next ?_
  | with_reducible refine s_drop ?_
  | with_reducible refine s_brk ?_
  | with_reducible refine s_cnt ?_
  | with_reducible refine s_asg ?_
  | with_reducible refine s_raise ?_
  | with_reducible refine s_setIx ?_
  | ((with_reducible refine' s_gN ?ee_ ?_); (case ee_ => rfl))
  | with_reducible refine s_gNl ?_
  | with_reducible refine s_gCn ?_
  | ((with_reducible refine' s_gT ?ee_ ?_); (case ee_ => rfl))
  | ((with_reducible refine' s_gL ?ee_ ?_); (case ee_ => rfl))
  | with_reducible refine s_for ?_
  | with_reducible refine s_wSeq ?_
  | ((with_reducible refine' x_items ?ee_ ?ff_ ?_); (case ee_ => rfl); (case ff_ => rfl))
  | with_reducible refine s_rng1 ?_
  | ((with_reducible refine' x_rng1 ?ee_ ?aa_ ?bb_ ?_); (case ee_ => rfl); (case aa_ => omega); (case bb_ => omega))
  | with_reducible refine s_rng2 ?_
  | ((with_reducible refine' x_rng2 ?ee_ ?aa_ ?_); (case ee_ => rfl); (case aa_ => exact ⟨by omega, by omega, by omega, by omega⟩))
  | with_reducible refine s_enum ?_
  | ((with_reducible refine' x_enum ?ee_ ?_); (case ee_ => rfl))
  | with_reducible refine s_lc ?_
  | with_reducible refine s_lcG ?_
  | ((with_reducible refine' s_lcV ?ee_ ?ff_ ?_); (case ee_ => rfl); (case ff_ => rfl))
  | ((with_reducible refine' s_forV ?ee_ ?_); (case ee_ => rfl))
  | ((with_reducible refine' x_clear ?ee_ ?_); (case ee_ => rfl))
  | with_reducible refine s_yes ?_
  | ((with_reducible refine' s_end ?ee_ ?bb_ ?_); (case ee_ => rfl); (case bb_ => walk_at "bk"))
  | ((with_reducible refine' x_pxT ?ee_ ?_); (case ee_ => assumption))
  | with_reducible refine x_got rfl ?_
  | with_reducible refine x_in0 ?_
  | with_reducible refine x_inS ?_
  | ((with_reducible refine' s_gVal ?ee_ ?_); (case ee_ => rfl))
  | ((with_reducible refine' s_gTag ?ee_ ?_); (case ee_ => rfl))
  | ((with_reducible refine' x_px ?bb_ ?_); (case bb_ => walk_at "bk"))
  | ((with_reducible refine' s_endN ?bb_ ?_); (case bb_ => walk_at "bk"))
  | with_reducible refine iteT ?_
  | with_reducible refine iteF ?_
  | with_reducible refine r_iteNf ?_
  | with_reducible refine r_iteNt ?_)
local macro_rules | `(tactic| walk_at "ds") => `(tactic| (repeat' (walk_at "ds1")))
set_option hygiene false in
local macro_rules | `(tactic| walk_at "dx") => `(tactic| (repeat' (first | walk_at "ds1" | with_reducible refine (fun (a : Addr) => ?_ : ∀ _ : Addr, _) | with_reducible refine ite_d (fun c => ?_) (fun c => ?_) | with_reducible refine ite_nd (fun c => ?_) (fun c => ?_) | with_reducible refine ite_nb (fun c => ?_) (fun c => ?_) | with_reducible refine ite_b (fun c => ?_) (fun c => ?_))))
set_option hygiene false in
local macro_rules | `(tactic| walk_at "dy") => `(tactic| (repeat' (first | walk_at "ds1" | with_reducible refine (fun (a : Addr) => ?_ : ∀ _ : Addr, _))))
theorem cut_to {α : Type} {xs : List α} {i : Nat} : cutL xs none (some (i : Int)) = xs.take i := by
  unfold cutL
  rw [HT.sIx_none, HT.sIx_nat, List.drop_zero, Nat.sub_zero, ← List.take_take, List.take_length]
theorem cut_fro {α : Type} {xs : List α} {i : Nat} (h : i < xs.length) : cutL xs (some ((i : Int) + 1)) none = xs.drop (i + 1) := by
  unfold cutL
  rw [HT.sIx_none, show (i : Int) + 1 = ((i + 1 : Nat) : Int) by omega, HT.sIx_nat, Nat.min_eq_left (by omega)]
  exact List.take_of_length_le (by rw [List.length_drop]; exact Nat.le_refl _)
section
variable {P : Program} {w : World} {K : PySem.W.Frag} {mg : Str → Option Value} {base : Heap} {A : Ad}
theorem okd__law_others (T : Txt K mg A) : FnOk P w K mg base (L2.CX P w) (4 + 1) A.f__law_others A.d__law_others P__law_others (spD K conOthers) := by
  have G__law_spot := okd__law_spot (P := P) (w := w) (base := base) T
  have G__law_take := okd__law_take (P := P) (w := w) (base := base) T
  have G__law_exchanged := okd__law_exchanged (P := P) (w := w) (base := base) T
  refine okD_fn T.F__law_others sc__law_others (fun es P PX h => ?_) (fun cdv A' outer s H I E es R PX hr fo hc => ?_)
  · obtain ⟨p, q, n, w', h', ms, rfl, _⟩ := h
    rfl
  obtain ⟨p, q, n, w', h', ms, rfl, hn, hw, hh', hwh, gd, hml, hP⟩ := hc
  have hu := hu_of hr
  refine ⟨_, (dss_cons (ds_set (i := 4) sc__law_others.nd rfl (Or.inl rfl) (de_lst (da_cons (de_tup (da_cons (de_op dor_add (dv 1) de_int) (da_cons (dv 2) (da_cons (dv 3) da_nil)))) (da_cons (de_tup (da_cons (dv 1) (da_cons (de_op dor_add (dv 2) de_int) (da_cons (dv 3) da_nil)))) da_nil))))
(dss_cut (ds_if (dt_cmp (dor_ne hr.units) (dv 1) (dv 2) (nomark _))
(dss_one (ds_expr (de_mut PySem.F.slot_list_append PySem.F.type_list_append mt_append dm_append (pv 4) (da_cons (de_tup (da_cons (dv 2) (da_cons (dv 1) (da_cons (de_lc (own := [("_law_row", 11)]) (by rfl) sc__law_others.nd (di_seq (dv 3)) (blkOk_by (own := [("_law_row", 11)]) (N := N__law_others) (sc := defScope s__law_others) (by decide +kernel)) (fun _ _ _ _ _ => by exact (dg_name (i := 11) sc__law_others.nd rfl (Or.inl rfl))) (fun _ _ _ _ _ => by exact (dts_one (dt_w (dw_and (dt_cmp dor_lt (de_ix dix (dv 11) de_int) (de_op dor_mul de_int (dv 2)) (nomark _)) (dw_and1 (dt_cmp dor_lt (de_ix dix (dv 11) de_int) (de_op dor_mul de_int (dv 1)) (nomark _))))))) (fun _ _ _ _ _ => by exact (dv 11)) (by rfl)) da_nil)))) da_nil))))
dss_nil)
(dss_cons (ds_set (i := 5) sc__law_others.nd rfl (Or.inl rfl) (de_call G__law_spot (hr.mono (by first | decide | omega)) rfl T.g__law_spot T.k__law_spot T.b__law_spot (takes_of rfl rfl rfl rfl) fo (gr 0 (dg_v (dv 1) (dg_v (dv 2) dg_nil)))))
(dss_cut (ds_if (dt_cmp (dor_nin (hu65_of hr)) (dv 5) (de_lc (own := [("_law_x", 7), ("_law_y", 8), ("_law_kind", 9)]) (by rfl) sc__law_others.nd (di_seq (dv 3)) (blkOk_by (own := [("_law_x", 7), ("_law_y", 8), ("_law_kind", 9)]) (N := N__law_others) (sc := defScope s__law_others) (by decide +kernel)) (fun _ _ _ _ _ => by exact (dg_tup (n := 3) rfl (dgs_cons (dg_name (i := 7) sc__law_others.nd rfl (Or.inl rfl)) (dgs_cons (dg_name (i := 8) sc__law_others.nd rfl (Or.inl rfl)) (dgs_cons (dg_name (i := 9) sc__law_others.nd rfl (Or.inl rfl)) dgs_nil))))) (fun _ _ _ _ _ => by exact dts_nil) (fun _ _ _ _ _ => by exact (de_tup (da_cons (dv 7) (da_cons (dv 8) da_nil)))) (by rfl)) (by rfl))
(dss_cons (ds_expr (de_mut PySem.F.slot_list_append PySem.F.type_list_append mt_append dm_append (pv 4) (da_cons (de_tup (da_cons (dv 1) (da_cons (dv 2) (da_cons (de_op dor_add (dv 3) (de_lst (da_cons (de_tup (da_cons (de_ix dix (dv 5) de_int) (da_cons (de_ix dix (dv 5) de_int) (da_cons de_str da_nil)))) da_nil))) da_nil)))) da_nil)))
(dss_one (ds_expr (de_mut PySem.F.slot_list_append PySem.F.type_list_append mt_append dm_append (pv 4) (da_cons (de_tup (da_cons (dv 1) (da_cons (dv 2) (da_cons (de_op dor_add (dv 3) (de_lst (da_cons (de_tup (da_cons (de_ix dix (dv 5) de_int) (da_cons (de_ix dix (dv 5) de_int) (da_cons de_str da_nil)))) da_nil))) da_nil)))) da_nil)))))
dss_nil)
(dss_cut (ds_if (dt_cmp dor_gt (de_blt dcr_len (by rfl) T.n_len (by decide +kernel) (da_cons (dv 3) da_nil)) de_int (nomark _))
(dss_cons (ds_set (i := 6) sc__law_others.nd rfl (Or.inl rfl) (de_call G__law_take (hr.mono (by first | decide | omega)) rfl T.g__law_take T.k__law_take T.b__law_take (takes_of rfl rfl rfl rfl) fo (gr 0 (dg_v (de_blt dcr_len (by rfl) T.n_len (by decide +kernel) (da_cons (dv 3) da_nil)) dg_nil))))
(dss_cons (ds_asg (de_ix dix (dv 3) (dv 6)) (dg_tup (n := 3) rfl (dgs_cons (dg_name (i := 7) sc__law_others.nd rfl (Or.inl rfl)) (dgs_cons (dg_name (i := 8) sc__law_others.nd rfl (Or.inl rfl)) (dgs_cons (dg_name (i := 9) sc__law_others.nd rfl (Or.inl rfl)) dgs_nil)))))
(dss_cut (ds_set (i := 10) sc__law_others.nd rfl (Or.inl rfl) (de_op dor_add (de_sl (dv 3) dx_no (dx_some (dv 6))) (de_sl (dv 3) (dx_some (de_op dor_add (dv 6) de_int)) dx_no)))
(dss_cut (ds_expr (de_mut PySem.F.slot_list_append PySem.F.type_list_append mt_append dm_append (pv 4) (da_cons (de_tup (da_cons (dv 1) (da_cons (dv 2) (da_cons (dv 10) da_nil)))) da_nil)))
(dss_cut (ds_expr (de_mut PySem.F.slot_list_append PySem.F.type_list_append mt_append dm_append (pv 4) (da_cons (de_tup (da_cons (dv 1) (da_cons (dv 2) (da_cons (de_op dor_add (dv 10) (de_lst (da_cons (de_tup (da_cons (dv 7) (da_cons (dv 8) (da_cons (de_dget hu de_disp2 (dv 9)) da_nil)))) da_nil))) da_nil)))) da_nil)))
(dss_cut (ds_set (i := 4) sc__law_others.nd rfl (Or.inl rfl) (de_op dor_add (dv 4) (de_call G__law_exchanged (hr.mono (by first | decide | omega)) rfl T.g__law_exchanged T.k__law_exchanged T.b__law_exchanged (takes_of rfl rfl rfl rfl) fo (gr 0 (dg_v (dv 1) (dg_v (dv 2) (dg_v (de_ix dix (dv 3) (dv 6)) (dg_v (dv 10) dg_nil))))))))
(dss_one (ds_if (dt_cmp (dor_nin (hu65_of hr)) (dv 5) (de_lc (own := [("_law_a", 12), ("_law_b", 13), ("_law_other", 14)]) (by rfl) sc__law_others.nd (di_seq (dv 3)) (blkOk_by (own := [("_law_a", 12), ("_law_b", 13), ("_law_other", 14)]) (N := N__law_others) (sc := defScope s__law_others) (by decide +kernel)) (fun _ _ _ _ _ => by exact (dg_tup (n := 3) rfl (dgs_cons (dg_name (i := 12) sc__law_others.nd rfl (Or.inl rfl)) (dgs_cons (dg_name (i := 13) sc__law_others.nd rfl (Or.inl rfl)) (dgs_cons (dg_name (i := 14) sc__law_others.nd rfl (Or.inl rfl)) dgs_nil))))) (fun _ _ _ _ _ => by exact dts_nil) (fun _ _ _ _ _ => by exact (de_tup (da_cons (dv 12) (da_cons (dv 13) da_nil)))) (by rfl)) (by rfl))
(dss_one (ds_expr (de_mut PySem.F.slot_list_append PySem.F.type_list_append mt_append dm_append (pv 4) (da_cons (de_tup (da_cons (dv 1) (da_cons (dv 2) (da_cons (de_op dor_add (dv 10) (de_lst (da_cons (de_tup (da_cons (de_ix dix (dv 5) de_int) (da_cons (de_ix dix (dv 5) de_int) (da_cons (dv 9) da_nil)))) da_nil))) da_nil)))) da_nil))))
dss_nil))))))))
dss_nil)
(dss_one (ds_ret (dv 4)))))))), ?_⟩
  walk_at "dy"
  have ra : RowOk w' h' ms (w' + 1, h', ms) := ⟨by show 1 ≤ w' + 1; omega, hh', gd.wide (show w' ≤ w' + 1 by omega) (Int.le_refl _), by show ms.length ≤ 210; omega, fun a _ _ => by have a : w' + 1 = w' := a; omega⟩
  have rb : RowOk w' h' ms (w', h' + 1, ms) := ⟨hw, by show 1 ≤ h' + 1; omega, gd.wide (Int.le_refl _) (show h' ≤ h' + 1 by omega), by show ms.length ≤ 210; omega, fun _ a _ => by have a : h' + 1 = h' := a; omega⟩
  refine s_cut (fun e => ∃ (rows : List Prt) (l : Addr) (v11 : Option Ent), e = [some (.hand p q n), some (.int w'), some (.int h'), some (.imm (mirsD ms)), some (.own l (.lst (rows.map prD))), none, none, none, none, none, none, v11, none, none, none] ∧ rows.length ≤ 3 ∧ ∀ r ∈ rows, RowOk w' h' ms r) ?_ ?_
  · walk_at "dx"
    · refine ⟨by rw [List.length_map]; omega, fun j acc => acc = ((ms.take j).filter fun m => decide (m.1 < 2 * h') && decide (m.2.1 < 2 * w')).map mirD, rfl, ?_, ?_⟩
      · rintro j c acc hc rfl
        obtain ⟨z, hz, rfl⟩ := map_get hc
        walk_at "dx"
        · refine ⟨rfl, ?_⟩
          dsimp only
          rw [take_suc hz, List.filter_append, List.map_append, List.filter_cons_of_pos (by rw [Bool.and_eq_true, decide_eq_true_eq, decide_eq_true_eq]; exact ⟨by assumption, by assumption⟩)]
          rfl
        all_goals
          refine ⟨rfl, ?_⟩
          dsimp only
          rw [take_suc hz, List.filter_append, List.filter_cons_of_neg (by rw [Bool.and_eq_true, decide_eq_true_eq, decide_eq_true_eq]; rintro ⟨a, b⟩; contradiction)]
          simp
      rintro acc rfl
      rw [List.length_map, List.take_length]
      walk_at "dx"
      refine m_app (by simp) ?_
      walk_at "dx"
      refine ⟨[(w' + 1, h', ms), (w', h' + 1, ms), (h', w', ms.filter fun m => decide (m.1 < 2 * h') && decide (m.2.1 < 2 * w'))], _, _, rfl, by simp, fun r hr => ?_⟩
      simp only [List.mem_cons, List.not_mem_nil, or_false] at hr
      rcases hr with rfl | rfl | rfl
      · exact ra
      · exact rb
      · refine ⟨hh', hw, gd.inner, ?_, fun a _ _ => ?_⟩
        · show (ms.filter _).length ≤ 210
          exact Nat.le_trans (List.length_filter_le _ _) (by omega)
        · have a : h' = w' := a
          omega
    · refine ⟨[(w' + 1, h', ms), (w', h' + 1, ms)], _, _, rfl, by simp, fun r hr => ?_⟩
      simp only [List.mem_cons, List.not_mem_nil, or_false] at hr
      rcases hr with rfl | rfl
      · exact ra
      · exact rb
  rintro e ⟨rows, l, v11, rfl, hrl, hrows⟩
  walk_at "dx"
  refine ⟨p, q, n, w', h', rfl, by omega, hw, hh', hwh, fun fx fy n1 hi hn1 => ?_⟩
  walk_at "dx"
  refine s_cut (fun e => ∃ (rows : List Prt) (l : Addr) (v6 v7 v8 v9 v10 v11 : Option Ent), e = [some (.hand p q n1), some (.int w'), some (.int h'), some (.imm (mirsD ms)), some (.own l (.lst (rows.map prD))), some (.imm (plD fx fy)), v6, v7, v8, v9, v10, v11, none, none, none] ∧ rows.length ≤ 5 ∧ ∀ r ∈ rows, RowOk w' h' ms r) ?_ ?_
  · walk_at "dx"
    refine ⟨by rw [List.length_map]; omega, fun j acc => acc = ((ms.take j).map mK).map ptOf, rfl, ?_, ?_⟩
    · rintro j c acc hc rfl
      obtain ⟨z, hz, rfl⟩ := map_get hc
      walk_at "dx"
      refine ⟨rfl, ?_⟩
      dsimp only
      rw [take_suc hz, List.map_append, List.map_append]
      rfl
    rintro acc rfl
    rw [List.length_map, List.take_length]
    walk_at "dx"
    refine o_ninPts (by rw [List.length_map]; omega) ?_
    walk_at "dx"
    · have hout : (fx, fy) ∉ ms.map mK := by assumption
      refine o_addL (by rw [List.length_map]; exact Nat.le_trans (Nat.add_le_add_right hml 1) (by decide)) fun a1 => ?_
      rw [show (D.lst (ms.map mirD ++ [D.tup [.int fx, .int fy, .str "-"]])) = mirsD (ms ++ [(fx, fy, ("-" : Str))]) by unfold mirsD; rw [List.map_append]; rfl]
      walk_at "dx"
      refine m_app (by rw [List.length_map]; omega) ?_
      walk_at "dx"
      refine o_addL (by rw [List.length_map]; exact Nat.le_trans (Nat.add_le_add_right hml 1) (by decide)) fun a1 => ?_
      rw [show (D.lst (ms.map mirD ++ [D.tup [.int fx, .int fy, .str "|"]])) = mirsD (ms ++ [(fx, fy, ("|" : Str))]) by unfold mirsD; rw [List.map_append]; rfl]
      walk_at "dx"
      refine m_app (by rw [List.length_append, List.length_map]; simp; omega) ?_
      walk_at "dx"
      rw [show (rows.map prD ++ [D.tup [.int w', .int h', mirsD (ms ++ [(fx, fy, ("-" : Str))])]]) ++ [D.tup [.int w', .int h', mirsD (ms ++ [(fx, fy, ("|" : Str))])]] = (rows ++ [(w', h', ms ++ [(fx, fy, ("-" : Str))]), (w', h', ms ++ [(fx, fy, ("|" : Str))])]).map prD by rw [List.map_append, List.append_assoc]; rfl]
      refine ⟨_, l, _, _, _, _, _, _, rfl, by rw [List.length_append]; simp; omega, fun r hr => ?_⟩
      rcases List.mem_append.mp hr with hr | hr
      · exact hrows r hr
      · simp only [List.mem_cons, List.not_mem_nil, or_false] at hr
        rcases hr with rfl | rfl
        · exact row_more gd hw hh' hml hi (.inl rfl) hout
        · exact row_more gd hw hh' hml hi (.inr rfl) hout
    · exact ⟨rows, l, _, _, _, _, _, _, rfl, by omega, hrows⟩
  rintro e ⟨rows, l, v6, v7, v8, v9, v10, v11, rfl, hrl, hrows⟩
  refine s_cut (fun e => ∃ (n2 : Nat) (rows : List Prt) (l : Addr) (v5 v6 v7 v8 v9 v10 v11 v12 v13 v14 : Option Ent), e = [some (.hand p q n2), some (.int w'), some (.int h'), some (.imm (mirsD ms)), some (.own l (.lst (rows.map prD))), v5, v6, v7, v8, v9, v10, v11, v12, v13, v14] ∧ n2 ≤ n + 100 ∧ rows.length ≤ 20 ∧ ∀ r ∈ rows, RowOk w' h' ms r) ?_ ?_
  · walk_at "dx"
    · have hpos : 0 < ms.length := by
        have c' : (0 : Int) < ((ms.map mirD).length : Nat) := by assumption
        rw [List.length_map] at c'
        omega
      refine ⟨p, q, n1, _, rfl, by omega, by rw [List.length_map]; omega, by rw [List.length_map]; omega, fun t t0 t1 => ?_⟩
      rw [List.length_map] at t1
      obtain ⟨i, rfl⟩ : ∃ i : Nat, t = i := ⟨t.toNat, by omega⟩
      obtain ⟨⟨x, y, k⟩, hm⟩ : ∃ m, ms[i]? = some m := ⟨_, List.getElem?_eq_getElem (by omega)⟩
      have k1 : ixN (ms.map mirD).length (i : Int) = some i := by
        have z := ixN_at (n := (ms.map mirD).length) (i := i) (by rw [List.length_map]; omega)
        rwa [Int.zero_add] at z
      have k2 := at_map (f := mirD) hm
      obtain ⟨rest, hrest⟩ : ∃ rest, rest = ms.take i ++ ms.drop (i + 1) := ⟨_, rfl⟩
      have sp : ms.Perm ((x, y, k) :: rest) := by rw [hrest]; exact split_at hm
      have gz : GoodMs w' h' ((x, y, k) :: rest) := gd.perm sp.symm
      have hlr : rest.length ≤ 200 := by have z := sp.length_eq; simp only [List.length_cons] at z; omega
      walk_at "dx"
      refine s_cut (fun e => ∃ v10 v11, e = [some (.hand p q (n1 + 1)), some (.int w'), some (.int h'), some (.imm (mirsD ms)), some (.own l (.lst (rows.map prD))), some (.imm (plD fx fy)), some (.int i), some (.int x), some (.int y), some (.imm (.str k)), some (.own v10 (mirsD rest)), v11, none, none, none]) ?_ ?_
      · walk_at "dx"
        rw [show cutL (ms.map mirD) none (some (i : Int)) = (ms.take i).map mirD by rw [cut_to, List.map_take]]
        rw [show cutL (ms.map mirD) (some ((i : Int) + 1)) none = (ms.drop (i + 1)).map mirD by rw [cut_fro (by rw [List.length_map]; omega), List.map_drop]]
        refine o_addL (by rw [← List.length_append, ← List.map_append, ← hrest, List.length_map]; exact Nat.le_trans hlr (by decide)) fun a1 => ?_
        rw [show (D.lst ((ms.take i).map mirD ++ (ms.drop (i + 1)).map mirD)) = mirsD rest by unfold mirsD; rw [hrest, List.map_append]]
        walk_at "dx"
        exact ⟨_, _, rfl⟩
      rintro e ⟨v10, v11, rfl⟩
      refine s_cut (fun e => e = [some (.hand p q (n1 + 1)), some (.int w'), some (.int h'), some (.imm (mirsD ms)), some (.own l (.lst ((rows ++ [(w', h', rest)]).map prD))), some (.imm (plD fx fy)), some (.int i), some (.int x), some (.int y), some (.imm (.str k)), some (.imm (mirsD rest)), v11, none, none, none]) ?_ ?_
      · walk_at "dx"
        refine m_app (by rw [List.length_map]; omega) ?_
        walk_at "dx"
        rw [List.map_append]
        rfl
      rintro e rfl
      refine s_cut (fun e => e = [some (.hand p q (n1 + 1)), some (.int w'), some (.int h'), some (.imm (mirsD ms)), some (.own l (.lst ((rows ++ [(w', h', rest), (w', h', rest ++ [(x, y, okK k)])]).map prD))), some (.imm (plD fx fy)), some (.int i), some (.int x), some (.int y), some (.imm (.str k)), some (.imm (mirsD rest)), v11, none, none, none]) ?_ ?_
      · walk_at "dx"
        have ko : KindOk k := gz.kind _ (List.mem_cons_self ..)
        refine ⟨.str (okK k), by rcases ko with h | h <;> rw [h] <;> rfl, ?_⟩
        walk_at "dx"
        refine o_addL (by rw [List.length_map]; exact Nat.le_trans (Nat.add_le_add_right hlr 1) (by decide)) fun a1 => ?_
        rw [show (D.lst (rest.map mirD ++ [D.tup [.int x, .int y, .str (okK k)]])) = mirsD (rest ++ [(x, y, okK k)]) by unfold mirsD; rw [List.map_append]; rfl]
        walk_at "dx"
        refine m_app (by rw [List.length_map, List.length_append]; simp; omega) ?_
        walk_at "dx"
        rw [show (rows ++ [(w', h', rest)]).map prD ++ [D.tup [.int w', .int h', mirsD (rest ++ [(x, y, okK k)])]] = (rows ++ [(w', h', rest), (w', h', rest ++ [(x, y, okK k)])]).map prD by rw [List.map_append, List.map_append, List.append_assoc]; rfl]
        rfl
      rintro e rfl
      refine s_cut (fun e => ∃ (n2 : Nat) (rs : List Prt) (l2 : Addr), e = [some (.hand p q n2), some (.int w'), some (.int h'), some (.imm (mirsD ms)), some (.own l2 (.lst (rs.map prD))), some (.imm (plD fx fy)), some (.int i), some (.int x), some (.int y), some (.imm (.str k)), some (.imm (mirsD rest)), v11, none, none, none] ∧ n2 ≤ n1 + 3 ∧ rs.length ≤ 10 ∧ ∀ r ∈ rs, RowOk w' h' ms r) ?_ ?_
      · walk_at "dx"
        refine ⟨p, q, n1 + 1, w', h', x, y, k, rest, rfl, by omega, hw, hh', gz, hlr, fun rs l2 n2 hrs hrok hn2 => ?_⟩
        walk_at "dx"
        refine o_addL (by rw [List.length_map, List.length_map, List.length_append]; exact Nat.le_trans (show rows.length + 2 + rs.length ≤ 9 by omega) (by decide)) fun a1 => ?_
        rw [← List.map_append]
        walk_at "dx"
        refine ⟨n2, _, _, rfl, by omega, by rw [List.length_append, List.length_append]; simp; omega, fun r hr => ?_⟩
        rcases List.mem_append.mp hr with hr | hr
        · rcases List.mem_append.mp hr with hr | hr
          · exact hrows r hr
          · simp only [List.mem_cons, List.not_mem_nil, or_false] at hr
            rcases hr with rfl | rfl
            · exact (row_less gz hw hh' hlr).perm sp.symm
            · exact (row_kind gz hw hh' hlr).perm sp.symm
        · exact (hrok r hr).perm sp.symm
      rintro e ⟨n2, rs, l2, rfl, hn2, hrs, hrok⟩
      walk_at "dx"
      refine ⟨by rw [List.length_map]; omega, fun j acc => acc = ((ms.take j).map mK).map ptOf, rfl, ?_, ?_⟩
      · rintro j c acc hc rfl
        obtain ⟨z, hz, rfl⟩ := map_get hc
        walk_at "dx"
        refine ⟨rfl, ?_⟩
        dsimp only
        rw [take_suc hz, List.map_append, List.map_append]
        rfl
      rintro acc rfl
      rw [List.length_map, List.take_length]
      walk_at "dx"
      refine o_ninPts (by rw [List.length_map]; omega) ?_
      walk_at "dx"
      · have hout : (fx, fy) ∉ ms.map mK := by assumption
        refine o_addL (by rw [List.length_map]; exact Nat.le_trans (Nat.add_le_add_right hlr 1) (by decide)) fun a1 => ?_
        rw [show (D.lst (rest.map mirD ++ [D.tup [.int fx, .int fy, .str k]])) = mirsD (rest ++ [(fx, fy, k)]) by unfold mirsD; rw [List.map_append]; rfl]
        walk_at "dx"
        refine m_app (by rw [List.length_map]; omega) ?_
        walk_at "dx"
        rw [show rs.map prD ++ [D.tup [.int w', .int h', mirsD (rest ++ [(fx, fy, k)])]] = (rs ++ [(w', h', rest ++ [(fx, fy, k)])]).map prD by rw [List.map_append]; rfl]
        refine ⟨n2, _, _, _, _, _, _, _, _, _, _, _, _, rfl, by omega, by rw [List.length_append]; simp; omega, fun r hr => ?_⟩
        rcases List.mem_append.mp hr with hr | hr
        · exact hrok r hr
        · rw [List.mem_singleton] at hr
          subst hr
          exact (row_free gz hw hh' hlr hi fun z => hout ((sp.map mK).mem_iff.mpr z)).perm sp.symm
      · exact ⟨n2, rs, l2, _, _, _, _, _, _, _, _, _, _, rfl, by omega, by omega, hrok⟩
    · exact ⟨n1, rows, l, _, _, _, _, _, _, _, _, _, _, rfl, by omega, by omega, hrows⟩
  rintro e ⟨n2, rows, l, v5, v6, v7, v8, v9, v10, v11, v12, v13, v14, rfl, hn2, hrl, hrows⟩
  walk_at "dx"
  exact hP rows l n2 hrl hrows hn2
end

end

section
local macro_rules | `(tactic| walk_at "al") => `(tactic| first
  | omega
  | exact Or.inl (Or.inl ⟨by omega, by omega⟩)
  | exact Or.inl (Or.inr ⟨by omega, by omega⟩)
  | exact ⟨by omega, Or.inl (by omega)⟩
  | exact ⟨by omega, by omega, by omega, by omega⟩
  | exact ⟨by decide, by decide, by decide⟩)
local macro_rules | `(tactic| walk_at "bk") => `(tactic| repeat (first | exact BackE.nil | apply BackE.imm | apply BackE.own | apply BackE.hand))
local macro_rules | `(tactic| walk_at "ds1") => `(tactic| first
  | ((with_reducible refine' s_vi ?ee_ ?_); (case ee_ => rfl))
  | ((with_reducible refine' s_vs ?ee_ ?_); (case ee_ => rfl))
  | with_reducible refine s_c ?_
  | with_reducible refine s_aN ?_
  | with_reducible refine s_aC ?_
  | with_reducible refine s_op ?_
  | ((with_reducible refine' x_val2 ?ee_ ?ff_ ?_); (case ee_ => rfl); (case ff_ => rfl))
  | ((with_reducible refine' x_bl ?ee_ ?_); (case ee_ => rfl))
  | ((with_reducible refine' x_int ?ee_ ?_); (case ee_ => rfl))
  | ((with_reducible refine' x_val ?ee_ ?_); (case ee_ => rfl))
  | ((with_reducible refine' x_vals ?ee_ ?_); (case ee_ => rfl))
  | ((with_reducible refine' x_frzs ?ee_ ?ll_ ?_); (case ee_ => rfl); (case ll_ => rfl))
  | ((with_reducible refine' x_frzO ?ee_ ?_); (case ee_ => rfl))
  | ((with_reducible refine' x_frz2 ?ee_ ?ff_ ?_); (case ee_ => rfl); (case ff_ => rfl))
  | ((with_reducible refine' x_frz ?ee_ ?_); (case ee_ => rfl))
  | ((with_reducible refine' x_asg ?ee_ ?_); (case ee_ => rfl))
  | with_reducible refine o_addI ?_
  | with_reducible refine o_subI ?_
  | ((with_reducible refine' o_mulI ?cc_ ?_); (case cc_ => walk_at "al"))
  | ((with_reducible refine' o_divI ?cc_ ?_); (case cc_ => walk_at "al"))
  | ((with_reducible refine' o_modI ?cc_ ?_); (case cc_ => walk_at "al"))
  | ((with_reducible refine' o_powI ?cc_ ?_); (case cc_ => walk_at "al"))
  | with_reducible refine o_andI ?_
  | with_reducible refine o_ltI ?_
  | with_reducible refine o_leI ?_
  | with_reducible refine o_gtI ?_
  | with_reducible refine o_geI ?_
  | with_reducible refine o_eqI ?_
  | with_reducible refine o_eqS ?_
  | with_reducible refine o_eqP ?_
  | with_reducible refine o_neI ?_
  | with_reducible refine o_neS ?_
  | with_reducible refine o_isN' ?_
  | with_reducible refine o_isB' ?_
  | with_reducible refine o_notN' ?_
  | ((with_reducible refine' o_ixT ?ee_ ?ff_ ?_); (case ee_ => first | rfl | assumption); (case ff_ => first | rfl | assumption))
  | ((with_reducible refine' o_ixL ?ee_ ?ff_ ?_); (case ee_ => first | rfl | assumption); (case ff_ => first | rfl | assumption))
  | with_reducible refine o_slL ?_
  | with_reducible refine o_slT ?_
  | with_reducible refine s_dnT ?_
  | with_reducible refine s_dnK ?_
  | with_reducible refine o_neP ?_
  | with_reducible refine o_neC ?_
  | ((with_reducible refine' o_fld ?ee_ ?_); (case ee_ => rfl))
  | with_reducible refine o_lenL ?_
  | with_reducible refine o_lenT ?_
  | with_reducible refine o_lenF ?_
  | with_reducible refine o_lenD ?_
  | with_reducible refine o_int ?_
  | with_reducible refine o_abs ?_
  | with_reducible refine o_max ?_
  | with_reducible refine o_min ?_
  | with_reducible refine o_list ?_
  | ((with_reducible refine' o_inT ?ee_ ?_); (case ee_ => rfl))
  | ((with_reducible refine' o_ninT ?ee_ ?_); (case ee_ => rfl))
  | with_reducible refine o_neg ?_
  | ((with_reducible refine' o_inF ?ee_ ?_); (case ee_ => rfl))
  | ((with_reducible refine' o_ninF ?ee_ ?_); (case ee_ => rfl))
  | with_reducible refine s_tup ?_
  | with_reducible refine s_lst ?_
  | with_reducible refine s_un ?_
  | with_reducible refine s_cl ?_
  | with_reducible refine s_test ?_
  | with_reducible refine s_and ?_
  | with_reducible refine s_or ?_
  | with_reducible refine s_not ?_
  | with_reducible refine s_andV ?_
  | with_reducible refine s_orV ?_
  | with_reducible refine s_notV ?_
  | with_reducible refine s_ifV ?_
  | with_reducible refine s_chain ?_
  | with_reducible refine x_ib ?_
  | with_reducible refine s_pN ?_
  | with_reducible refine s_pS ?_
  | with_reducible refine s_sl ?_
  | with_reducible refine s_sameL ?_
  | with_reducible refine o_isNB ?_
  | with_reducible refine s_fz ?_
  | with_reducible refine o_ixH ?_
  | ((with_reducible refine' x_noa ?ee_ ?_); (case ee_ => rfl))
  | ((with_reducible refine' x_lenN ?ee_ ?ff_ ?_); (case ee_ => omega); (case ff_ => omega))
  | ((with_reducible refine' x_le1000 ?ee_ ?_); (case ee_ => rfl))
  | with_reducible refine s_call ?_
  | ((with_reducible refine' x_con ?ee_ ?ff_ ?_); (case ee_ => rfl); (case ff_ => rfl))
  | ((with_reducible refine' s_callD ?ee_ ?ff_ ?_); (case ee_ => rfl); (case ff_ => rfl))
  | ((with_reducible refine' x_back ?ll_ ?ee_ ?_); (case ll_ => rfl); (case ee_ => rfl))
  | ((with_reducible refine' x_back1 ?ee_ ?_); (case ee_ => rfl))
  | with_reducible refine s_gaN ?_
  | with_reducible refine s_gaV ?_
  | ((with_reducible refine' s_gaR ?ee_ ?_); (case ee_ => rfl))
  | with_reducible refine s_meth ?_
  | with_reducible refine s_meth0 ?_
  | with_reducible refine s_methK ?_
  | with_reducible refine s_makeK ?_
  | ((with_reducible refine' x_frzsK ?ee_ ?ll_ ?_); (case ee_ => rfl); (case ll_ => rfl))
  | with_reducible refine s_prop ?_
  | with_reducible refine s_make ?_
  | with_reducible refine s_own2 ?_
  | with_reducible refine s_eqX ?_
  | with_reducible refine s_neX ?_
  | with_reducible refine s_rev ?_
  | with_reducible refine x_nb ?_
  | ((with_reducible refine' x_rev ?ee_ ?ff_ ?_); (case ee_ => rfl); (case ff_ => rfl))
  | with_reducible refine s_lenO ?_
  | ((with_reducible refine' s_mut ?ee_ ?_); (case ee_ => rfl))
  | ((with_reducible refine' x_mut ?ee_ ?ff_ ?_); (case ee_ => rfl); (case ff_ => rfl))
  | ((with_reducible refine' s_mut0 ?ee_ ?_); (case ee_ => rfl))
  | with_reducible refine m_clr ?_
  | with_reducible refine m_rev ?_
  | with_reducible refine s_dget ?_
  | with_reducible refine s_dget1 ?_
  | with_reducible refine s_dget2 ?_
  | ((with_reducible refine' x_isT ?ee_ ?_); (case ee_ => rfl))
  | ((with_reducible refine' x_isK ?ee_ ?_); (case ee_ => rfl))
  | ((with_reducible refine' x_get2 ?ee_ ?ff_ ?gg_ ?_); (case ee_ => rfl); (case ff_ => rfl); (case gg_ => rfl))
  | with_reducible refine s_din ?_
  | with_reducible refine s_dnin ?_
  | ((with_reducible refine' s_lookT ?ee_ ?_); (case ee_ => rfl))
  | ((with_reducible refine' s_lookK ?ee_ ?_); (case ee_ => rfl))
  | with_reducible refine s_seq ?_
  | with_reducible refine s_set ?_
  | with_reducible refine s_ret ?_
  | with_reducible refine s_retN ?_
  | with_reducible refine s_if ?_
  | with_reducible refine s_next ?_
  | with_reducible refine s_drop ?_
  | with_reducible refine s_brk ?_
  | with_reducible refine s_cnt ?_
  | with_reducible refine s_asg ?_
  | with_reducible refine s_raise ?_
  | with_reducible refine s_setIx ?_
  | ((with_reducible refine' s_gN ?ee_ ?_); (case ee_ => rfl))
  | with_reducible refine s_gNl ?_
  | with_reducible refine s_gCn ?_
  | ((with_reducible refine' s_gT ?ee_ ?_); (case ee_ => rfl))
  | ((with_reducible refine' s_gL ?ee_ ?_); (case ee_ => rfl))
  | with_reducible refine s_for ?_
  | with_reducible refine s_wSeq ?_
  | ((with_reducible refine' x_items ?ee_ ?ff_ ?_); (case ee_ => rfl); (case ff_ => rfl))
  | with_reducible refine s_rng1 ?_
  | ((with_reducible refine' x_rng1 ?ee_ ?aa_ ?bb_ ?_); (case ee_ => rfl); (case aa_ => omega); (case bb_ => omega))
  | with_reducible refine s_rng2 ?_
  | ((with_reducible refine' x_rng2 ?ee_ ?aa_ ?_); (case ee_ => rfl); (case aa_ => exact ⟨by omega, by omega, by omega, by omega⟩))
  | with_reducible refine s_enum ?_
  | ((with_reducible refine' x_enum ?ee_ ?_); (case ee_ => rfl))
  | with_reducible refine s_lc ?_
  | with_reducible refine s_lcG ?_
  | ((with_reducible refine' s_lcV ?ee_ ?ff_ ?_); (case ee_ => rfl); (case ff_ => rfl))
  | ((with_reducible refine' s_forV ?ee_ ?_); (case ee_ => rfl))
  | ((with_reducible refine' x_clear ?ee_ ?_); (case ee_ => rfl))
  | with_reducible refine s_yes ?_
  | ((with_reducible refine' s_end ?ee_ ?bb_ ?_); (case ee_ => rfl); (case bb_ => walk_at "bk"))
  | ((with_reducible refine' x_pxT ?ee_ ?_); (case ee_ => assumption))
  | with_reducible refine x_got rfl ?_
  | with_reducible refine x_in0 ?_
  | with_reducible refine x_inS ?_
  | ((with_reducible refine' s_gVal ?ee_ ?_); (case ee_ => rfl))
  | ((with_reducible refine' s_gTag ?ee_ ?_); (case ee_ => rfl))
  | ((with_reducible refine' x_px ?bb_ ?_); (case bb_ => walk_at "bk"))
  | ((with_reducible refine' s_endN ?bb_ ?_); (case bb_ => walk_at "bk"))
  | with_reducible refine iteT ?_
  | with_reducible refine iteF ?_
  | with_reducible refine r_iteNf ?_
  | with_reducible refine r_iteNt ?_)
local macro_rules | `(tactic| walk_at "ds") => `(tactic| (repeat' (walk_at "ds1")))
set_option hygiene false in
local macro_rules | `(tactic| walk_at "dx") => `(tactic| (repeat' (first | walk_at "ds1" | with_reducible refine (fun (a : Addr) => ?_ : ∀ _ : Addr, _) | with_reducible refine ite_d (fun c => ?_) (fun c => ?_) | with_reducible refine ite_nd (fun c => ?_) (fun c => ?_) | with_reducible refine ite_nb (fun c => ?_) (fun c => ?_) | with_reducible refine ite_b (fun c => ?_) (fun c => ?_))))
set_option hygiene false in
local macro_rules | `(tactic| walk_at "dy") => `(tactic| (repeat' (first | walk_at "ds1" | with_reducible refine (fun (a : Addr) => ?_ : ∀ _ : Addr, _))))
/-! ### the law k10 -/
section
variable {P : Program} {w : World} {K : PySem.W.Frag} {mg : Str → Option Value} {base : Heap} {A : Ad}
theorem okd_law (T : Txt K mg A) : FnOk P w K mg base (L2.CX P w) (6 + 1) A.f_law A.d_law P_law (spD K conLaw) := by
  have G__law_hand := okd__law_hand (P := P) (w := w) (base := base) T
  have G__law_take := okd__law_take (P := P) (w := w) (base := base) T
  have G__law_far := okd__law_far (P := P) (w := w) (base := base) T
  have G__law_sizes := okd__law_sizes (P := P) (w := w) (base := base) T
  have G__law_mirrors := okd__law_mirrors (P := P) (w := w) (base := base) T
  have G_Board___init__ := okd_Board___init__ (P := P) (w := w) (base := base) T
  have G__law_agree := okd__law_agree (P := P) (w := w) (base := base) T
  have G__law_others := okd__law_others (P := P) (w := w) (base := base) T
  refine okD_fn T.F_law sc_law (fun es P PX h => ?_) (fun cdv A' outer s H I E es R PX hr fo hc => ?_)
  · obtain ⟨ns, rfl, _⟩ := h
    rfl
  obtain ⟨ns, rfl, hl, hP⟩ := hc
  have hu := hu_of hr
  refine ⟨_, (dss_cons (ds_set (i := 1) sc_law.nd rfl (Or.inl rfl) (de_call G__law_hand (hr.mono (by first | decide | omega)) rfl T.g__law_hand T.k__law_hand T.b__law_hand (takes_of rfl rfl rfl rfl) fo (dg_v (dv 0) dg_nil)))
(dss_cut (ds_if (dt_cmp (dor_eq hr.units) (de_call G__law_take (hr.mono (by first | decide | omega)) rfl T.g__law_take T.k__law_take T.b__law_take (takes_of rfl rfl rfl rfl) fo (gr 1 (dg_v de_int dg_nil))) de_int (nomark _))
(dss_one (ds_asg (de_call G__law_far (hr.mono (by first | decide | omega)) rfl T.g__law_far T.k__law_far T.b__law_far (takes_of rfl rfl rfl rfl) fo (gr 1 (dg_v de_int (dg_v (de_op dor_sub (de_op dor_pow de_int de_int) de_int) dg_nil)))) (dg_tup (n := 3) rfl (dgs_cons (dg_name (i := 2) sc_law.nd rfl (Or.inl rfl)) (dgs_cons (dg_name (i := 3) sc_law.nd rfl (Or.inl rfl)) (dgs_cons (dg_name (i := 4) sc_law.nd rfl (Or.inl rfl)) dgs_nil))))))
(dss_cons (ds_asg (de_call G__law_sizes (hr.mono (by first | decide | omega)) rfl T.g__law_sizes T.k__law_sizes T.b__law_sizes (takes_of rfl rfl rfl rfl) fo (gr 1 (dg_v de_int dg_nil))) (dg_tup (n := 2) rfl (dgs_cons (dg_name (i := 2) sc_law.nd rfl (Or.inl rfl)) (dgs_cons (dg_name (i := 3) sc_law.nd rfl (Or.inl rfl)) dgs_nil))))
(dss_cons (ds_if (dt_cmp (dor_eq hr.units) (de_op dor_add (dv 2) (dv 3)) de_int (nomark _))
(dss_one (ds_set (i := 2) sc_law.nd rfl (Or.inl rfl) de_int))
dss_nil)
(dss_one (ds_fz 4 (ds_set (i := 4) sc_law.nd rfl (Or.inl rfl) (de_call G__law_mirrors (hr.mono (by first | decide | omega)) rfl T.g__law_mirrors T.k__law_mirrors T.b__law_mirrors (takes_of rfl rfl rfl rfl) fo (gr 1 (dg_v (dv 2) (dg_v (dv 3) dg_nil))))))))))
(dss_cons (ds_set (i := 5) sc_law.nd rfl (Or.inl rfl) (de_make T.M_Board G_Board___init__ mkD_Board (hr.mono (by first | decide | omega)) rfl T.g_Board T.b_Board___init__ (takes_of rfl rfl rfl rfl) fo (dg_v (dv 2) (dg_v (dv 3) (dg_v (de_typ dcr_list (by rfl) T.n_list (by decide +kernel) (da_cons (dv 4) da_nil)) dg_nil)))))
(dss_cons (ds_if (dt_w (dw_or (dt_not (dt_val (de_call G__law_agree (hr.mono (by first | decide | omega)) rfl T.g__law_agree T.k__law_agree T.b__law_agree (takes_of rfl rfl rfl rfl) fo (dg_v (dv 5) (dg_v (de_make T.M_Board G_Board___init__ mkD_Board (hr.mono (by first | decide | omega)) rfl T.g_Board T.b_Board___init__ (takes_of rfl rfl rfl rfl) fo (dg_v (dv 2) (dg_v (dv 3) (dg_v (de_rev (dv 4) (de_neg de_int)) dg_nil)))) (dg_v de_bl dg_nil)))))) (dw_or1 (dt_not (dt_val (de_call G__law_agree (hr.mono (by first | decide | omega)) rfl T.g__law_agree T.k__law_agree T.b__law_agree (takes_of rfl rfl rfl rfl) fo (dg_v (dv 5) (dg_v (dv 5) (dg_v de_bl dg_nil)))))))))
(dss_one (ds_ret de_bl))
dss_nil)
(dss_cons (ds_fz 6 (ds_set (i := 6) sc_law.nd rfl (Or.inl rfl) (de_call G__law_others (hr.mono (by first | decide | omega)) rfl T.g__law_others T.k__law_others T.b__law_others (takes_of rfl rfl rfl rfl) fo (gr 1 (dg_v (dv 2) (dg_v (dv 3) (dg_v (dv 4) dg_nil)))))))
(dss_cut (ds_for (passes_of rfl) rfl (di_seq (dv 6)) (dg_name (i := 7) sc_law.nd rfl (Or.inl rfl))
(dss_one (ds_if (dt_not (dt_val (de_call G__law_agree (hr.mono (by first | decide | omega)) rfl T.g__law_agree T.k__law_agree T.b__law_agree (takes_of rfl rfl rfl rfl) fo (dg_v (dv 5) (dg_v (de_make T.M_Board G_Board___init__ mkD_Board (hr.mono (by first | decide | omega)) rfl T.g_Board T.b_Board___init__ (takes_of rfl rfl rfl rfl) fo (dg_v (de_ix dix (dv 7) de_int) (dg_v (de_ix dix (dv 7) de_int) (dg_v (de_typ dcr_list (by rfl) T.n_list (by decide +kernel) (da_cons (de_ix dix (dv 7) de_int) da_nil)) dg_nil)))) (dg_v de_bl dg_nil))))))
(dss_one (ds_ret de_bl))
dss_nil)))
(dss_cut (ds_if (dt_cmp dor_gt (de_blt dcr_len (by rfl) T.n_len (by decide +kernel) (da_cons (dv 6) da_nil)) de_int (nomark _))
(dss_cons (ds_set (i := 8) sc_law.nd rfl (Or.inl rfl) (de_ix dix (dv 6) (de_call G__law_take (hr.mono (by first | decide | omega)) rfl T.g__law_take T.k__law_take T.b__law_take (takes_of rfl rfl rfl rfl) fo (gr 1 (dg_v (de_blt dcr_len (by rfl) T.n_len (by decide +kernel) (da_cons (dv 6) da_nil)) dg_nil)))))
(dss_cons (ds_set (i := 9) sc_law.nd rfl (Or.inl rfl) (de_make T.M_Board G_Board___init__ mkD_Board (hr.mono (by first | decide | omega)) rfl T.g_Board T.b_Board___init__ (takes_of rfl rfl rfl rfl) fo (dg_v (de_ix dix (dv 8) de_int) (dg_v (de_ix dix (dv 8) de_int) (dg_v (de_rev (de_ix dix (dv 8) de_int) (de_neg de_int)) dg_nil)))))
(dss_one (ds_if (dt_not (dt_val (de_call G__law_agree (hr.mono (by first | decide | omega)) rfl T.g__law_agree T.k__law_agree T.b__law_agree (takes_of rfl rfl rfl rfl) fo (dg_v (dv 9) (dg_v (de_make T.M_Board G_Board___init__ mkD_Board (hr.mono (by first | decide | omega)) rfl T.g_Board T.b_Board___init__ (takes_of rfl rfl rfl rfl) fo (dg_v (de_ix dix (dv 8) de_int) (dg_v (de_ix dix (dv 8) de_int) (dg_v (de_typ dcr_list (by rfl) T.n_list (by decide +kernel) (da_cons (de_ix dix (dv 8) de_int) da_nil)) dg_nil)))) (dg_v de_bl dg_nil))))))
(dss_one (ds_ret de_bl))
dss_nil))))
dss_nil)
(dss_cons (ds_for (passes_of rfl) rfl (di_seq (de_lst (da_cons (de_tup (da_cons (dv 2) (da_cons (dv 3) (da_cons (de_blt dcr_sortM (by rfl) T.n_sorted (by decide +kernel) (da_cons (dv 4) da_nil)) da_nil)))) (da_cons (de_blt dcr_sortM (by rfl) T.n_sorted (by decide +kernel) (da_cons (dv 4) da_nil)) (da_cons de_str (da_cons (dv 2) (da_cons de_non (da_cons (de_lst da_nil) (da_cons de_bl da_nil))))))))) (dg_name (i := 10) sc_law.nd rfl (Or.inl rfl))
(dss_one (ds_if (dt_w (dw_or (dt_cmp dor_isNotB (de_eqX (dv 5) (dv 10) (eqn_ok (P := P) (w := w) (base := base) T) (hr.mono (by first | decide | omega)) T.m_Board___eq__ T.b_Board___eq__) de_bl (nomark _)) (dw_or1 (dt_cmp dor_isNotB (de_neX (dv 5) (dv 10) (eqn_ok (P := P) (w := w) (base := base) T) (hr.mono (by first | decide | omega)) T.m_Board___eq__ T.ne_Board T.i4_Board T.b_Board___eq__) de_bl (nomark _)))))
(dss_one (ds_ret de_bl))
dss_nil)))
(dss_one (ds_ret de_bl)))))))))), ?_⟩
  walk_at "dy"
  refine ⟨ns, rfl, hl, fun p q => ?_⟩
  walk_at "dx"
  refine s_cut (fun e => ∃ n w h ms, e = [some (.imm (.fls (ns.map D.int))), some (.hand p q n), some (.int w), some (.int h), some (.imm (mirsD ms)), none, none, none, none, none, none] ∧ n ≤ 19000 ∧ 1 ≤ w ∧ 1 ≤ h ∧ 2 < w + h ∧ GoodMs w h ms ∧ ms.length ≤ 200) ?_ ?_
  · walk_at "dx"
    refine ⟨p, q, 0, _, rfl, by decide, by decide, by decide, fun r r0 r1 => ?_⟩
    walk_at "dx"
    · refine ⟨p, q, 1, 11, (10 : Int) ^ 30 - 1, rfl, by decide, by decide, by decide, by decide, fun w h ms w0 h0 wh g hz => ?_⟩
      walk_at "dx"
      exact ⟨_, _, _, _, rfl, by omega, w0, h0, by omega, g, by omega⟩
    · refine ⟨p, q, 1, 16, rfl, by decide, by decide, by decide, fun w h w0 h0 hwh => ?_⟩
      walk_at "dx"
      · refine ⟨p, q, 4, 3, h, rfl, by decide, by decide, h0, by omega, fun ms l g hz => ?_⟩
        walk_at "dx"
        exact ⟨_, _, _, _, rfl, by omega, by decide, h0, by omega, g, by omega⟩
      · refine ⟨p, q, 4, w, h, rfl, by decide, w0, h0, by omega, fun ms l g hz => ?_⟩
        walk_at "dx"
        exact ⟨_, _, _, _, rfl, by omega, w0, h0, by omega, g, by omega⟩
  rintro e ⟨n, w', h', ms, rfl, hn, hw, hh', hwh, gd, hml⟩
  have rv : ms.reverse.Perm ms := List.reverse_perm ms
  have gr : GoodMs w' h' ms.reverse := gd.perm rv
  walk_at "dx"
  refine ⟨_, _, _, rfl, by omega, .inr (.inr (.inl ⟨hw, hh', gd, ?_⟩))⟩
  walk_at "dx"
  rw [show (D.lst (ms.map mirD).reverse) = mirsD ms.reverse by unfold mirsD; rw [List.map_reverse]]
  refine ⟨_, _, ms.reverse, rfl, by rw [List.length_reverse]; omega, .inr (.inr (.inl ⟨hw, hh', gr, ?_⟩))⟩
  walk_at "dx"
  refine ⟨_, _, ms, _, _, ms.reverse, true, rfl, eq_brd gd.nd rv.symm, eq_brd gr.nd rv, ?_⟩
  walk_at "dx"
  refine ⟨_, _, ms, _, _, ms, true, rfl, eq_brd gd.nd (.refl _), eq_brd gd.nd (.refl _), ?_⟩
  walk_at "dx"
  refine ⟨p, q, n, w', h', ms, rfl, by omega, hw, hh', hwh, gd, hml, fun rows l n1 hrl hrows hn1 => ?_⟩
  walk_at "dx"
  refine s_cut (fun e => ∃ v7 : Option Ent, e = [some (.imm (.fls (ns.map D.int))), some (.hand p q n1), some (.int w'), some (.int h'), some (.imm (mirsD ms)), some (.imm (brdD A.C_Board w' h' ms)), some (.imm (.lst (rows.map prD))), v7, none, none, none]) ?_ ?_
  · walk_at "dx"
    refine ⟨fun _ e => ∃ v7 : Option Ent, e = [some (.imm (.fls (ns.map D.int))), some (.hand p q n1), some (.int w'), some (.int h'), some (.imm (mirsD ms)), some (.imm (brdD A.C_Board w' h' ms)), some (.imm (.lst (rows.map prD))), v7, none, none, none], ⟨_, rfl⟩, ?_, ?_⟩
    · rintro i c e hc ⟨v7, rfl⟩
      obtain ⟨z, hz, rfl⟩ := map_get hc
      have r := hrows z (List.mem_of_getElem? hz)
      have r60 := r.l
      walk_at "dx"
      refine ⟨_, _, z.2.2, rfl, by omega, .inr (.inr (.inl ⟨r.w1, r.h1, r.g, ?_⟩))⟩
      walk_at "dx"
      refine ⟨_, _, ms, _, _, z.2.2, false, rfl, (ne_row gd r).1, (ne_row gd r).2, ?_⟩
      walk_at "dx"
      exact ⟨_, rfl⟩
    · rintro e ⟨v7, rfl⟩
      walk_at "dx"
      exact ⟨_, rfl⟩
  rintro e ⟨v7, rfl⟩
  refine s_cut (fun e => ∃ (n2 : Nat) (v7 v8 v9 : Option Ent), e = [some (.imm (.fls (ns.map D.int))), some (.hand p q n2), some (.int w'), some (.int h'), some (.imm (mirsD ms)), some (.imm (brdD A.C_Board w' h' ms)), some (.imm (.lst (rows.map prD))), v7, v8, v9, none]) ?_ ?_
  · walk_at "dx"
    · have hpos : 4 < rows.length := by
        have c' : (4 : Int) < ((rows.map prD).length : Nat) := by assumption
        rw [List.length_map] at c'
        omega
      refine ⟨p, q, n1, _, rfl, by omega, by rw [List.length_map]; omega, by rw [List.length_map]; omega, fun t t0 t1 => ?_⟩
      rw [List.length_map] at t1
      obtain ⟨i, rfl⟩ : ∃ i : Nat, t = i := ⟨t.toNat, by omega⟩
      obtain ⟨z, hz⟩ : ∃ z, rows[i]? = some z := ⟨_, List.getElem?_eq_getElem (by omega)⟩
      have k1 : ixN (rows.map prD).length (i : Int) = some i := by
        have z := ixN_at (n := (rows.map prD).length) (i := i) (by rw [List.length_map]; omega)
        rwa [Int.zero_add] at z
      have k2 := at_map (f := prD) hz
      have r := hrows z (List.mem_of_getElem? hz)
      have r60 := r.l
      have zv : z.2.2.reverse.Perm z.2.2 := List.reverse_perm _
      have gz : GoodMs z.1 z.2.1 z.2.2.reverse := r.g.perm zv
      walk_at "dx"
      rw [show (D.lst (z.2.2.map mirD).reverse) = mirsD z.2.2.reverse by unfold mirsD; rw [List.map_reverse]]
      refine ⟨_, _, z.2.2.reverse, rfl, by rw [List.length_reverse]; omega, .inr (.inr (.inl ⟨r.w1, r.h1, gz, ?_⟩))⟩
      walk_at "dx"
      refine ⟨_, _, z.2.2, rfl, by omega, .inr (.inr (.inl ⟨r.w1, r.h1, r.g, ?_⟩))⟩
      walk_at "dx"
      refine ⟨_, _, z.2.2.reverse, _, _, z.2.2, true, rfl, eq_brd gz.nd zv, eq_brd r.g.nd zv.symm, ?_⟩
      walk_at "dx"
      exact ⟨_, _, _, _, rfl⟩
    · exact ⟨_, _, _, _, rfl⟩
  rintro e ⟨n2, v7, v8, v9, rfl⟩
  walk_at "dx"
  refine ⟨ms, rfl, fun so l1 p1 p2 => ?_⟩
  walk_at "dx"
  refine ⟨ms, rfl, fun so2 l2 p3 p4 => ?_⟩
  walk_at "dx"
  refine ⟨fun _ e => ∃ v10 : Option Ent, e = [some (.imm (.fls (ns.map D.int))), some (.hand p q n2), some (.int w'), some (.int h'), some (.imm (mirsD ms)), some (.imm (brdD A.C_Board w' h' ms)), some (.imm (.lst (rows.map prD))), v7, v8, v9, v10], ⟨_, rfl⟩, ?_, ?_⟩
  · rintro i c e hc ⟨v10, rfl⟩
    obtain ⟨nm, hno, hty, hsb⟩ : ∃ nm : String, (∀ C fs, c ≠ D.obj C fs) ∧ tyOfD c = some (.type nm) ∧ PySem.W.subIn K (.type nm) (.ref A.C_Board) = some false := by
      have m := List.mem_of_getElem? hc
      simp only [List.mem_cons, List.not_mem_nil, or_false] at m
      rcases m with rfl | rfl | rfl | rfl | rfl | rfl | rfl
      · exact ⟨"tuple", fun C fs e => (by cases e), rfl, sub_tuple⟩
      · exact ⟨"list", fun C fs e => (by cases e), rfl, sub_list⟩
      · exact ⟨"str", fun C fs e => (by cases e), rfl, sub_str⟩
      · exact ⟨"int", fun C fs e => (by cases e), rfl, sub_int⟩
      · exact ⟨"NoneType", fun C fs e => (by cases e), rfl, sub_none⟩
      · exact ⟨"list", fun C fs e => (by cases e), rfl, sub_list⟩
      · exact ⟨"bool", fun C fs e => (by cases e), rfl, sub_bool⟩
    walk_at "ds"
    refine ⟨_, _, _, _, rfl, rfl, nofst hno hty hsb, ?_⟩
    walk_at "ds"
    refine ⟨_, _, ms, c, _, rfl, hno, hty, kit_no T.zc_Board T.tc_Board hsb, ?_⟩
    walk_at "ds"
    refine ite_nd (fun c => absurd rfl c) fun _ => ?_
    walk_at "ds"
    refine ⟨_, _, _, _, rfl, rfl, nofst hno hty hsb, ?_⟩
    walk_at "ds"
    refine ⟨_, _, ms, c, _, rfl, hno, hty, kit_no T.zc_Board T.tc_Board hsb, ?_⟩
    walk_at "ds"
    refine ite_nd (fun c => absurd rfl c) fun _ => ?_
    walk_at "dx"
    exact ⟨_, rfl⟩
  · rintro e ⟨v10, rfl⟩
    walk_at "dx"
    exact hP
theorem ok_law (T : Txt K mg A) : FnOk P w K mg base CX0 7 A.f_law A.d_law P_law (spLaw K) := FnOk.calm (okd_law T) law_of
end

end
/-! ### what the top has written -/
theorem exm_ok {K : PySem.W.Frag} {S : Addr} (h1 : PySem.W.subIn K (.ref S) (.type "BaseException") = some true) (h2 : PySem.W.isClsIn K S = true) (h3 : PySem.W.typeIn K (.ref S) = some (.type "type"))
    (h4 : PySem.W.subIn K (.ref S) (.ref S) = some true) : PySem.W.exmOne K (.ref S) (.ref S) = some true := by
  have h5 : (PySem.W.clsIn K S).isSome = true := h2
  unfold PySem.W.exmOne PySem.W.kitCls
  rw [h1, if_pos (beq_self_eq_true _)]
  show (if ((PySem.W.clsIn K S).isSome && PySem.W.typeIn K (.ref S) == some (.type "type")) = true then PySem.W.subIn K (.ref S) (.ref S) else none) = some true
  rw [h5, h3, h4]
  rfl
theorem exm_no {K : PySem.W.Frag} {S R : Addr} (h1 : PySem.W.subIn K (.ref S) (.type "BaseException") = some true) (h2 : PySem.W.isClsIn K S = true) (h3 : PySem.W.typeIn K (.ref S) = some (.type "type"))
    (h4 : PySem.W.subIn K (.ref R) (.ref S) = some false) : PySem.W.exmOne K (.ref R) (.ref S) = some false := by
  have h5 : (PySem.W.clsIn K S).isSome = true := h2
  unfold PySem.W.exmOne PySem.W.kitCls
  rw [h1, if_pos (beq_self_eq_true _)]
  show (if ((PySem.W.clsIn K S).isSome && PySem.W.typeIn K (.ref S) == some (.type "type")) = true then PySem.W.subIn K (.ref R) (.ref S) else none) = some false
  rw [h5, h3, h4]
  rfl
theorem exm_yes {K : PySem.W.Frag} {S R : Addr} (h1 : PySem.W.subIn K (.ref S) (.type "BaseException") = some true) (h2 : PySem.W.isClsIn K S = true) (h3 : PySem.W.typeIn K (.ref S) = some (.type "type"))
    (h4 : PySem.W.subIn K (.ref R) (.ref S) = some true) : PySem.W.exmOne K (.ref R) (.ref S) = some true := by
  have h5 : (PySem.W.clsIn K S).isSome = true := h2
  unfold PySem.W.exmOne PySem.W.kitCls
  rw [h1, if_pos (beq_self_eq_true _)]
  show (if ((PySem.W.clsIn K S).isSome && PySem.W.typeIn K (.ref S) == some (.type "type")) = true then PySem.W.subIn K (.ref R) (.ref S) else none) = some true
  rw [h5, h3, h4]
  rfl
theorem all_mk {l : PySem.W.OpenLaw} {w : World} {K : PySem.W.Frag} {h : Heap} {mg : Str → Option Value} {fa : Addr} (X : K.In h) (G : h.Ns mainGlobals mg) (hfa : mg "law" = some (.ref fa))
    {S : Addr}
    {C_InvalidSize : Addr}
    {C_InvalidPoint : Addr}
    {C_InvalidMirror : Addr}
    {C_Taken : Addr}
    {C_Board : Addr}
    {f_SandError___init__ : Addr} {od_SandError___init__ an_SandError___init__ : Option Addr} {sl_SandError___init__ : Array (Option Value)} {oc_SandError___init__ kV_SandError___init__ dc_SandError___init__ pm_SandError___init__ cd_SandError___init__ ct_SandError___init__ : Value}
    {f_is_inside : Addr} {od_is_inside an_is_inside : Option Addr} {sl_is_inside : Array (Option Value)} {oc_is_inside kV_is_inside dc_is_inside pm_is_inside cd_is_inside ct_is_inside : Value}
    {f_check_mirror : Addr} {od_check_mirror an_check_mirror : Option Addr} {sl_check_mirror : Array (Option Value)} {oc_check_mirror kV_check_mirror dc_check_mirror pm_check_mirror cd_check_mirror ct_check_mirror : Value}
    {f_kinds_of : Addr} {od_kinds_of an_kinds_of : Option Addr} {sl_kinds_of : Array (Option Value)} {oc_kinds_of kV_kinds_of dc_kinds_of pm_kinds_of cd_kinds_of ct_kinds_of : Value}
    {f_Board___init__ : Addr} {od_Board___init__ an_Board___init__ : Option Addr} {sl_Board___init__ : Array (Option Value)} {oc_Board___init__ kV_Board___init__ dc_Board___init__ pm_Board___init__ cd_Board___init__ ct_Board___init__ : Value}
    {f_Board___eq__ : Addr} {od_Board___eq__ an_Board___eq__ : Option Addr} {sl_Board___eq__ : Array (Option Value)} {oc_Board___eq__ kV_Board___eq__ dc_Board___eq__ pm_Board___eq__ cd_Board___eq__ ct_Board___eq__ : Value}
    {f__law_hand : Addr} {od__law_hand an__law_hand : Option Addr} {sl__law_hand : Array (Option Value)} {oc__law_hand kV__law_hand dc__law_hand pm__law_hand cd__law_hand ct__law_hand : Value}
    {f__law_take : Addr} {od__law_take an__law_take : Option Addr} {sl__law_take : Array (Option Value)} {oc__law_take kV__law_take dc__law_take pm__law_take cd__law_take ct__law_take : Value}
    {f__law_big : Addr} {od__law_big an__law_big : Option Addr} {sl__law_big : Array (Option Value)} {oc__law_big kV__law_big dc__law_big pm__law_big cd__law_big ct__law_big : Value}
    {f__law_points : Addr} {od__law_points an__law_points : Option Addr} {sl__law_points : Array (Option Value)} {oc__law_points kV__law_points dc__law_points pm__law_points cd__law_points ct__law_points : Value}
    {f__law_mirrors : Addr} {od__law_mirrors an__law_mirrors : Option Addr} {sl__law_mirrors : Array (Option Value)} {oc__law_mirrors kV__law_mirrors dc__law_mirrors pm__law_mirrors cd__law_mirrors ct__law_mirrors : Value}
    {f__law_sizes : Addr} {od__law_sizes an__law_sizes : Option Addr} {sl__law_sizes : Array (Option Value)} {oc__law_sizes kV__law_sizes dc__law_sizes pm__law_sizes cd__law_sizes ct__law_sizes : Value}
    {f__law_spot : Addr} {od__law_spot an__law_spot : Option Addr} {sl__law_spot : Array (Option Value)} {oc__law_spot kV__law_spot dc__law_spot pm__law_spot cd__law_spot ct__law_spot : Value}
    {f__law_far : Addr} {od__law_far an__law_far : Option Addr} {sl__law_far : Array (Option Value)} {oc__law_far kV__law_far dc__law_far pm__law_far cd__law_far ct__law_far : Value}
    {f__law_agree : Addr} {od__law_agree an__law_agree : Option Addr} {sl__law_agree : Array (Option Value)} {oc__law_agree kV__law_agree dc__law_agree pm__law_agree cd__law_agree ct__law_agree : Value}
    {f__law_exchanged : Addr} {od__law_exchanged an__law_exchanged : Option Addr} {sl__law_exchanged : Array (Option Value)} {oc__law_exchanged kV__law_exchanged dc__law_exchanged pm__law_exchanged cd__law_exchanged ct__law_exchanged : Value}
    {f__law_others : Addr} {od__law_others an__law_others : Option Addr} {sl__law_others : Array (Option Value)} {oc__law_others kV__law_others dc__law_others pm__law_others cd__law_others ct__law_others : Value}
    {f_law : Addr} {od_law an_law : Option Addr} {sl_law : Array (Option Value)} {oc_law kV_law dc_law pm_law cd_law ct_law : Value}
    {nm_InvalidSize q_InvalidSize : Str} {N_InvalidSize : Addr} {bs_InvalidSize : List Value} {sn_InvalidSize : List Str} {sub_InvalidSize : List Value} {ab_InvalidSize : Bool} {col_InvalidSize : Option Bool} {dd_InvalidSize : Option Addr} {m0_InvalidSize m1_InvalidSize m2_InvalidSize m3_InvalidSize m5_InvalidSize : Option Value}
    {nm_InvalidPoint q_InvalidPoint : Str} {N_InvalidPoint : Addr} {bs_InvalidPoint : List Value} {sn_InvalidPoint : List Str} {sub_InvalidPoint : List Value} {ab_InvalidPoint : Bool} {col_InvalidPoint : Option Bool} {dd_InvalidPoint : Option Addr} {m0_InvalidPoint m1_InvalidPoint m2_InvalidPoint m3_InvalidPoint m5_InvalidPoint : Option Value}
    {nm_InvalidMirror q_InvalidMirror : Str} {N_InvalidMirror : Addr} {bs_InvalidMirror : List Value} {sn_InvalidMirror : List Str} {sub_InvalidMirror : List Value} {ab_InvalidMirror : Bool} {col_InvalidMirror : Option Bool} {dd_InvalidMirror : Option Addr} {m0_InvalidMirror m1_InvalidMirror m2_InvalidMirror m3_InvalidMirror m5_InvalidMirror : Option Value}
    {nm_Taken q_Taken : Str} {N_Taken : Addr} {bs_Taken : List Value} {sn_Taken : List Str} {sub_Taken : List Value} {ab_Taken : Bool} {col_Taken : Option Bool} {dd_Taken : Option Addr} {m0_Taken m1_Taken m2_Taken m3_Taken m5_Taken : Option Value}
    {c_KINDS : Addr} {dd_KINDS : Option Addr} {t_KINDS_0 t_KINDS_1 : Tok} {n_KINDS : Nat} {sl_KINDS : Array (Option Value)}
    (aC_InvalidSize : PySem.W.nsIn K mainGlobals "InvalidSize" = some (some (.ref C_InvalidSize)))
    (aC_InvalidPoint : PySem.W.nsIn K mainGlobals "InvalidPoint" = some (some (.ref C_InvalidPoint)))
    (aC_InvalidMirror : PySem.W.nsIn K mainGlobals "InvalidMirror" = some (some (.ref C_InvalidMirror)))
    (aC_Taken : PySem.W.nsIn K mainGlobals "Taken" = some (some (.ref C_Taken)))
    (aC_Board : PySem.W.nsIn K mainGlobals "Board" = some (some (.ref C_Board)))
    (xL_InvalidSize : K.lookup C_InvalidSize = some (excClassObj nm_InvalidSize q_InvalidSize C_InvalidSize N_InvalidSize bs_InvalidSize [.ref S, .type "ValueError", .type "Exception", .type "BaseException", .type "object"] true sn_InvalidSize sub_InvalidSize ab_InvalidSize col_InvalidSize dd_InvalidSize m0_InvalidSize m1_InvalidSize m2_InvalidSize m3_InvalidSize m5_InvalidSize "ValueError.__new__"))
    (sa_InvalidSize : PySem.W.findIn K (.ref C_InvalidSize) "__setattr__" = some (some (.builtin "object.__setattr__")))
    (ga_InvalidSize : PySem.W.findIn K (.ref C_InvalidSize) "__getattribute__" = some (some (.builtin "BaseException.__getattribute__")))
    (gg_InvalidSize : PySem.W.findIn K (.ref C_InvalidSize) "__getattr__" = some none)
    (nv_InvalidSize : PySem.W.findIn K (.ref C_InvalidSize) "value" = some none)
    (iI_InvalidSize : PySem.W.findIn K (.ref C_InvalidSize) "__init__" = some (some (.ref f_SandError___init__)))
    (kC_InvalidSize : PySem.W.keepIn K (.ref C_InvalidSize) = true)
    (eC_InvalidSize : PySem.W.subIn K (.ref C_InvalidSize) (.type "BaseException") = some true)
    (tC_InvalidSize : PySem.W.typeIn K (.ref C_InvalidSize) = some (.type "type"))
    (hC_InvalidSize : PySem.W.hasDictIn K C_InvalidSize = true)
    (zC_InvalidSize : PySem.W.isClsIn K C_InvalidSize = true)
    (sC_InvalidSize : PySem.W.subIn K (.ref C_InvalidSize) (.ref C_InvalidSize) = some true)
    (xL_InvalidPoint : K.lookup C_InvalidPoint = some (excClassObj nm_InvalidPoint q_InvalidPoint C_InvalidPoint N_InvalidPoint bs_InvalidPoint [.ref S, .type "ValueError", .type "Exception", .type "BaseException", .type "object"] true sn_InvalidPoint sub_InvalidPoint ab_InvalidPoint col_InvalidPoint dd_InvalidPoint m0_InvalidPoint m1_InvalidPoint m2_InvalidPoint m3_InvalidPoint m5_InvalidPoint "ValueError.__new__"))
    (sa_InvalidPoint : PySem.W.findIn K (.ref C_InvalidPoint) "__setattr__" = some (some (.builtin "object.__setattr__")))
    (ga_InvalidPoint : PySem.W.findIn K (.ref C_InvalidPoint) "__getattribute__" = some (some (.builtin "BaseException.__getattribute__")))
    (gg_InvalidPoint : PySem.W.findIn K (.ref C_InvalidPoint) "__getattr__" = some none)
    (nv_InvalidPoint : PySem.W.findIn K (.ref C_InvalidPoint) "value" = some none)
    (iI_InvalidPoint : PySem.W.findIn K (.ref C_InvalidPoint) "__init__" = some (some (.ref f_SandError___init__)))
    (kC_InvalidPoint : PySem.W.keepIn K (.ref C_InvalidPoint) = true)
    (eC_InvalidPoint : PySem.W.subIn K (.ref C_InvalidPoint) (.type "BaseException") = some true)
    (tC_InvalidPoint : PySem.W.typeIn K (.ref C_InvalidPoint) = some (.type "type"))
    (hC_InvalidPoint : PySem.W.hasDictIn K C_InvalidPoint = true)
    (zC_InvalidPoint : PySem.W.isClsIn K C_InvalidPoint = true)
    (sC_InvalidPoint : PySem.W.subIn K (.ref C_InvalidPoint) (.ref C_InvalidPoint) = some true)
    (xL_InvalidMirror : K.lookup C_InvalidMirror = some (excClassObj nm_InvalidMirror q_InvalidMirror C_InvalidMirror N_InvalidMirror bs_InvalidMirror [.ref S, .type "ValueError", .type "Exception", .type "BaseException", .type "object"] true sn_InvalidMirror sub_InvalidMirror ab_InvalidMirror col_InvalidMirror dd_InvalidMirror m0_InvalidMirror m1_InvalidMirror m2_InvalidMirror m3_InvalidMirror m5_InvalidMirror "ValueError.__new__"))
    (sa_InvalidMirror : PySem.W.findIn K (.ref C_InvalidMirror) "__setattr__" = some (some (.builtin "object.__setattr__")))
    (ga_InvalidMirror : PySem.W.findIn K (.ref C_InvalidMirror) "__getattribute__" = some (some (.builtin "BaseException.__getattribute__")))
    (gg_InvalidMirror : PySem.W.findIn K (.ref C_InvalidMirror) "__getattr__" = some none)
    (nv_InvalidMirror : PySem.W.findIn K (.ref C_InvalidMirror) "value" = some none)
    (iI_InvalidMirror : PySem.W.findIn K (.ref C_InvalidMirror) "__init__" = some (some (.ref f_SandError___init__)))
    (kC_InvalidMirror : PySem.W.keepIn K (.ref C_InvalidMirror) = true)
    (eC_InvalidMirror : PySem.W.subIn K (.ref C_InvalidMirror) (.type "BaseException") = some true)
    (tC_InvalidMirror : PySem.W.typeIn K (.ref C_InvalidMirror) = some (.type "type"))
    (hC_InvalidMirror : PySem.W.hasDictIn K C_InvalidMirror = true)
    (zC_InvalidMirror : PySem.W.isClsIn K C_InvalidMirror = true)
    (sC_InvalidMirror : PySem.W.subIn K (.ref C_InvalidMirror) (.ref C_InvalidMirror) = some true)
    (xL_Taken : K.lookup C_Taken = some (excClassObj nm_Taken q_Taken C_Taken N_Taken bs_Taken [.ref S, .type "ValueError", .type "Exception", .type "BaseException", .type "object"] true sn_Taken sub_Taken ab_Taken col_Taken dd_Taken m0_Taken m1_Taken m2_Taken m3_Taken m5_Taken "ValueError.__new__"))
    (sa_Taken : PySem.W.findIn K (.ref C_Taken) "__setattr__" = some (some (.builtin "object.__setattr__")))
    (ga_Taken : PySem.W.findIn K (.ref C_Taken) "__getattribute__" = some (some (.builtin "BaseException.__getattribute__")))
    (gg_Taken : PySem.W.findIn K (.ref C_Taken) "__getattr__" = some none)
    (nv_Taken : PySem.W.findIn K (.ref C_Taken) "value" = some none)
    (iI_Taken : PySem.W.findIn K (.ref C_Taken) "__init__" = some (some (.ref f_SandError___init__)))
    (kC_Taken : PySem.W.keepIn K (.ref C_Taken) = true)
    (eC_Taken : PySem.W.subIn K (.ref C_Taken) (.type "BaseException") = some true)
    (tC_Taken : PySem.W.typeIn K (.ref C_Taken) = some (.type "type"))
    (hC_Taken : PySem.W.hasDictIn K C_Taken = true)
    (zC_Taken : PySem.W.isClsIn K C_Taken = true)
    (sC_Taken : PySem.W.subIn K (.ref C_Taken) (.ref C_Taken) = some true)
    (tI : PySem.W.typeIn K (.ref f_SandError___init__) = some (.type "function"))
    (l_SandError___init__ : K.lookup f_SandError___init__ = some ⟨oc_SandError___init__, od_SandError___init__, .func (PySem.W.fnOf "__init__" "SandError.__init__" (defArgs s_SandError___init__) (defBody s_SandError___init__) (defScope s_SandError___init__) .none kV_SandError___init__ dc_SandError___init__ pm_SandError___init__ an_SandError___init__ cd_SandError___init__ ct_SandError___init__), sl_SandError___init__⟩)
    (c_SandError___init__ : PySem.W.codeIn K cd_SandError___init__ "SandError.__init__" = true)
    (k_SandError___init__ : PySem.W.keepIn K (.ref f_SandError___init__) = true)
    (a_is_inside : PySem.W.nsIn K mainGlobals "is_inside" = some (some (.ref f_is_inside)))
    (l_is_inside : K.lookup f_is_inside = some ⟨oc_is_inside, od_is_inside, .func (PySem.W.fnOf "is_inside" "is_inside" (defArgs s_is_inside) (defBody s_is_inside) (defScope s_is_inside) .none kV_is_inside dc_is_inside pm_is_inside an_is_inside cd_is_inside ct_is_inside), sl_is_inside⟩)
    (c_is_inside : PySem.W.codeIn K cd_is_inside "is_inside" = true)
    (k_is_inside : PySem.W.keepIn K (.ref f_is_inside) = true)
    (a_check_mirror : PySem.W.nsIn K mainGlobals "check_mirror" = some (some (.ref f_check_mirror)))
    (l_check_mirror : K.lookup f_check_mirror = some ⟨oc_check_mirror, od_check_mirror, .func (PySem.W.fnOf "check_mirror" "check_mirror" (defArgs s_check_mirror) (defBody s_check_mirror) (defScope s_check_mirror) .none kV_check_mirror dc_check_mirror pm_check_mirror an_check_mirror cd_check_mirror ct_check_mirror), sl_check_mirror⟩)
    (c_check_mirror : PySem.W.codeIn K cd_check_mirror "check_mirror" = true)
    (k_check_mirror : PySem.W.keepIn K (.ref f_check_mirror) = true)
    (a_kinds_of : PySem.W.nsIn K mainGlobals "kinds_of" = some (some (.ref f_kinds_of)))
    (l_kinds_of : K.lookup f_kinds_of = some ⟨oc_kinds_of, od_kinds_of, .func (PySem.W.fnOf "kinds_of" "kinds_of" (defArgs s_kinds_of) (defBody s_kinds_of) (defScope s_kinds_of) .none kV_kinds_of dc_kinds_of pm_kinds_of an_kinds_of cd_kinds_of ct_kinds_of), sl_kinds_of⟩)
    (c_kinds_of : PySem.W.codeIn K cd_kinds_of "kinds_of" = true)
    (k_kinds_of : PySem.W.keepIn K (.ref f_kinds_of) = true)
    (a_Board___init__ : PySem.W.findIn K (.ref C_Board) "__init__" = some (some (.ref f_Board___init__)))
    (i_Board___init__ : PySem.W.isFn K (.ref f_Board___init__) = true)
    (l_Board___init__ : K.lookup f_Board___init__ = some ⟨oc_Board___init__, od_Board___init__, .func (PySem.W.fnOf "__init__" "Board.__init__" (defArgs s_Board___init__) (defBody s_Board___init__) (defScope s_Board___init__) .none kV_Board___init__ dc_Board___init__ pm_Board___init__ an_Board___init__ cd_Board___init__ ct_Board___init__), sl_Board___init__⟩)
    (c_Board___init__ : PySem.W.codeIn K cd_Board___init__ "Board.__init__" = true)
    (k_Board___init__ : PySem.W.keepIn K (.ref f_Board___init__) = true)
    (a_Board___eq__ : PySem.W.findIn K (.ref C_Board) "__eq__" = some (some (.ref f_Board___eq__)))
    (i_Board___eq__ : PySem.W.isFn K (.ref f_Board___eq__) = true)
    (l_Board___eq__ : K.lookup f_Board___eq__ = some ⟨oc_Board___eq__, od_Board___eq__, .func (PySem.W.fnOf "__eq__" "Board.__eq__" (defArgs s_Board___eq__) (defBody s_Board___eq__) (defScope s_Board___eq__) .none kV_Board___eq__ dc_Board___eq__ pm_Board___eq__ an_Board___eq__ cd_Board___eq__ ct_Board___eq__), sl_Board___eq__⟩)
    (c_Board___eq__ : PySem.W.codeIn K cd_Board___eq__ "Board.__eq__" = true)
    (k_Board___eq__ : PySem.W.keepIn K (.ref f_Board___eq__) = true)
    (a__law_hand : PySem.W.nsIn K mainGlobals "_law_hand" = some (some (.ref f__law_hand)))
    (l__law_hand : K.lookup f__law_hand = some ⟨oc__law_hand, od__law_hand, .func (PySem.W.fnOf "_law_hand" "_law_hand" (defArgs s__law_hand) (defBody s__law_hand) (defScope s__law_hand) .none kV__law_hand dc__law_hand pm__law_hand an__law_hand cd__law_hand ct__law_hand), sl__law_hand⟩)
    (c__law_hand : PySem.W.codeIn K cd__law_hand "_law_hand" = true)
    (k__law_hand : PySem.W.keepIn K (.ref f__law_hand) = true)
    (a__law_take : PySem.W.nsIn K mainGlobals "_law_take" = some (some (.ref f__law_take)))
    (l__law_take : K.lookup f__law_take = some ⟨oc__law_take, od__law_take, .func (PySem.W.fnOf "_law_take" "_law_take" (defArgs s__law_take) (defBody s__law_take) (defScope s__law_take) .none kV__law_take dc__law_take pm__law_take an__law_take cd__law_take ct__law_take), sl__law_take⟩)
    (c__law_take : PySem.W.codeIn K cd__law_take "_law_take" = true)
    (k__law_take : PySem.W.keepIn K (.ref f__law_take) = true)
    (a__law_big : PySem.W.nsIn K mainGlobals "_law_big" = some (some (.ref f__law_big)))
    (l__law_big : K.lookup f__law_big = some ⟨oc__law_big, od__law_big, .func (PySem.W.fnOf "_law_big" "_law_big" (defArgs s__law_big) (defBody s__law_big) (defScope s__law_big) .none kV__law_big dc__law_big pm__law_big an__law_big cd__law_big ct__law_big), sl__law_big⟩)
    (c__law_big : PySem.W.codeIn K cd__law_big "_law_big" = true)
    (k__law_big : PySem.W.keepIn K (.ref f__law_big) = true)
    (a__law_points : PySem.W.nsIn K mainGlobals "_law_points" = some (some (.ref f__law_points)))
    (l__law_points : K.lookup f__law_points = some ⟨oc__law_points, od__law_points, .func (PySem.W.fnOf "_law_points" "_law_points" (defArgs s__law_points) (defBody s__law_points) (defScope s__law_points) .none kV__law_points dc__law_points pm__law_points an__law_points cd__law_points ct__law_points), sl__law_points⟩)
    (c__law_points : PySem.W.codeIn K cd__law_points "_law_points" = true)
    (k__law_points : PySem.W.keepIn K (.ref f__law_points) = true)
    (a__law_mirrors : PySem.W.nsIn K mainGlobals "_law_mirrors" = some (some (.ref f__law_mirrors)))
    (l__law_mirrors : K.lookup f__law_mirrors = some ⟨oc__law_mirrors, od__law_mirrors, .func (PySem.W.fnOf "_law_mirrors" "_law_mirrors" (defArgs s__law_mirrors) (defBody s__law_mirrors) (defScope s__law_mirrors) .none kV__law_mirrors dc__law_mirrors pm__law_mirrors an__law_mirrors cd__law_mirrors ct__law_mirrors), sl__law_mirrors⟩)
    (c__law_mirrors : PySem.W.codeIn K cd__law_mirrors "_law_mirrors" = true)
    (k__law_mirrors : PySem.W.keepIn K (.ref f__law_mirrors) = true)
    (a__law_sizes : PySem.W.nsIn K mainGlobals "_law_sizes" = some (some (.ref f__law_sizes)))
    (l__law_sizes : K.lookup f__law_sizes = some ⟨oc__law_sizes, od__law_sizes, .func (PySem.W.fnOf "_law_sizes" "_law_sizes" (defArgs s__law_sizes) (defBody s__law_sizes) (defScope s__law_sizes) .none kV__law_sizes dc__law_sizes pm__law_sizes an__law_sizes cd__law_sizes ct__law_sizes), sl__law_sizes⟩)
    (c__law_sizes : PySem.W.codeIn K cd__law_sizes "_law_sizes" = true)
    (k__law_sizes : PySem.W.keepIn K (.ref f__law_sizes) = true)
    (a__law_spot : PySem.W.nsIn K mainGlobals "_law_spot" = some (some (.ref f__law_spot)))
    (l__law_spot : K.lookup f__law_spot = some ⟨oc__law_spot, od__law_spot, .func (PySem.W.fnOf "_law_spot" "_law_spot" (defArgs s__law_spot) (defBody s__law_spot) (defScope s__law_spot) .none kV__law_spot dc__law_spot pm__law_spot an__law_spot cd__law_spot ct__law_spot), sl__law_spot⟩)
    (c__law_spot : PySem.W.codeIn K cd__law_spot "_law_spot" = true)
    (k__law_spot : PySem.W.keepIn K (.ref f__law_spot) = true)
    (a__law_far : PySem.W.nsIn K mainGlobals "_law_far" = some (some (.ref f__law_far)))
    (l__law_far : K.lookup f__law_far = some ⟨oc__law_far, od__law_far, .func (PySem.W.fnOf "_law_far" "_law_far" (defArgs s__law_far) (defBody s__law_far) (defScope s__law_far) .none kV__law_far dc__law_far pm__law_far an__law_far cd__law_far ct__law_far), sl__law_far⟩)
    (c__law_far : PySem.W.codeIn K cd__law_far "_law_far" = true)
    (k__law_far : PySem.W.keepIn K (.ref f__law_far) = true)
    (a__law_agree : PySem.W.nsIn K mainGlobals "_law_agree" = some (some (.ref f__law_agree)))
    (l__law_agree : K.lookup f__law_agree = some ⟨oc__law_agree, od__law_agree, .func (PySem.W.fnOf "_law_agree" "_law_agree" (defArgs s__law_agree) (defBody s__law_agree) (defScope s__law_agree) .none kV__law_agree dc__law_agree pm__law_agree an__law_agree cd__law_agree ct__law_agree), sl__law_agree⟩)
    (c__law_agree : PySem.W.codeIn K cd__law_agree "_law_agree" = true)
    (k__law_agree : PySem.W.keepIn K (.ref f__law_agree) = true)
    (a__law_exchanged : PySem.W.nsIn K mainGlobals "_law_exchanged" = some (some (.ref f__law_exchanged)))
    (l__law_exchanged : K.lookup f__law_exchanged = some ⟨oc__law_exchanged, od__law_exchanged, .func (PySem.W.fnOf "_law_exchanged" "_law_exchanged" (defArgs s__law_exchanged) (defBody s__law_exchanged) (defScope s__law_exchanged) .none kV__law_exchanged dc__law_exchanged pm__law_exchanged an__law_exchanged cd__law_exchanged ct__law_exchanged), sl__law_exchanged⟩)
    (c__law_exchanged : PySem.W.codeIn K cd__law_exchanged "_law_exchanged" = true)
    (k__law_exchanged : PySem.W.keepIn K (.ref f__law_exchanged) = true)
    (a__law_others : PySem.W.nsIn K mainGlobals "_law_others" = some (some (.ref f__law_others)))
    (l__law_others : K.lookup f__law_others = some ⟨oc__law_others, od__law_others, .func (PySem.W.fnOf "_law_others" "_law_others" (defArgs s__law_others) (defBody s__law_others) (defScope s__law_others) .none kV__law_others dc__law_others pm__law_others an__law_others cd__law_others ct__law_others), sl__law_others⟩)
    (c__law_others : PySem.W.codeIn K cd__law_others "_law_others" = true)
    (k__law_others : PySem.W.keepIn K (.ref f__law_others) = true)
    (a_law : PySem.W.nsIn K mainGlobals "law" = some (some (.ref f_law)))
    (l_law : K.lookup f_law = some ⟨oc_law, od_law, .func (PySem.W.fnOf "law" "law" (defArgs s_law) (defBody s_law) (defScope s_law) .none kV_law dc_law pm_law an_law cd_law ct_law), sl_law⟩)
    (c_law : PySem.W.codeIn K cd_law "law" = true)
    (k_law : PySem.W.keepIn K (.ref f_law) = true)
    (pg_Board : PySem.W.plainGet K C_Board Str.empty = true)
    (hd_Board : PySem.W.hasDictIn K C_Board = true)
    (po_Board : PySem.W.plainOver K C_Board = true)
    (st_Board : PySem.W.findIn K (.ref C_Board) "__setattr__" = some (some (.builtin "object.__setattr__")))
    (mk_Board : PySem.W.makesIn K C_Board = true)
    (kc_Board : PySem.W.keepIn K (.ref C_Board) = true)
    (ne_Board : PySem.W.findIn K (.ref C_Board) "__ne__" = some (some (.builtin "object.__ne__")))
    (zc_Board : PySem.W.isClsIn K C_Board = true)
    (tc_Board : PySem.W.typeIn K (.ref C_Board) = some (.type "type"))
    (i1_Board : PySem.W.findIn K (.ref C_Board) "__class__" = some (some (.builtin "object.__class__")))
    (i2_Board : PySem.W.specialIn K (.builtin "object.__class__") "__get__" = some (some (.builtin "getset_descriptor.__get__")))
    (i3_Board : PySem.W.takesIn K (.builtin "object.__class__") = some true)
    (i4_Board : PySem.W.mroIn K C_Board (.type "object") = some true)
    (na_Board_wide : PySem.W.findIn K (.ref C_Board) "wide" = some none)
    (na_Board_high : PySem.W.findIn K (.ref C_Board) "high" = some none)
    (na_Board_kinds : PySem.W.findIn K (.ref C_Board) "kinds" = some none)
    (ac_KINDS : PySem.W.nsIn K mainGlobals "KINDS" = some (some (.ref c_KINDS)))
    (lc_KINDS : K.lookup c_KINDS = some ⟨.type "tuple", dd_KINDS, .seq #[.str "-" t_KINDS_0, .str "|" t_KINDS_1] n_KINDS, sl_KINDS⟩)
    (z_len : PySem.W.nsIn K mainGlobals "len" = some none)
    (z_int : PySem.W.nsIn K mainGlobals "int" = some none)
    (z_abs : PySem.W.nsIn K mainGlobals "abs" = some none)
    (z_min : PySem.W.nsIn K mainGlobals "min" = some none)
    (z_range : PySem.W.nsIn K mainGlobals "range" = some none)
    (z_list : PySem.W.nsIn K mainGlobals "list" = some none)
    (z_isinstance : PySem.W.nsIn K mainGlobals "isinstance" = some none)
    (z_bool : PySem.W.nsIn K mainGlobals "bool" = some none)
    (z_str : PySem.W.nsIn K mainGlobals "str" = some none)
    (z_tuple : PySem.W.nsIn K mainGlobals "tuple" = some none)
    (z_sorted : PySem.W.nsIn K mainGlobals "sorted" = some none) :
    ∃ fd : FuncData, (∀ (s : Shared) (v : Value), BindsTo s fd ⟨[v], []⟩ [("_law_script", v)]) ∧ ∀ base : Heap, K.In base → base.Ns mainGlobals mg → FnOk l.prog w K mg base CX0 7 fa fd ["_law_script"] (spLaw K) := by
  have e := hfa.symm.trans (PySem.W.mg_of X G a_law)
  cases e
  have F_SandError___init__ := fun_mk (st := s_SandError___init__) l_SandError___init__ c_SandError___init__ k_SandError___init__
  have b_SandError___init__ := F_SandError___init__.binds (ps := P_SandError___init__) fun _ _ _ _ _ _ us hl => match us, hl with | [_, _], _ => rfl
  have F_is_inside := fun_mk (st := s_is_inside) l_is_inside c_is_inside k_is_inside
  have b_is_inside := F_is_inside.binds (ps := P_is_inside) fun _ _ _ _ _ _ us hl => match us, hl with | [_, _, _, _], _ => rfl
  have F_check_mirror := fun_mk (st := s_check_mirror) l_check_mirror c_check_mirror k_check_mirror
  have b_check_mirror := F_check_mirror.binds (ps := P_check_mirror) fun _ _ _ _ _ _ us hl => match us, hl with | [_, _, _, _], _ => rfl
  have F_kinds_of := fun_mk (st := s_kinds_of) l_kinds_of c_kinds_of k_kinds_of
  have b_kinds_of := F_kinds_of.binds (ps := P_kinds_of) fun _ _ _ _ _ _ us hl => match us, hl with | [_, _, _], _ => rfl
  have F_Board___init__ := fun_mk (st := s_Board___init__) l_Board___init__ c_Board___init__ k_Board___init__
  have b_Board___init__ := F_Board___init__.binds (ps := P_Board___init__) fun _ _ _ _ _ _ us hl => match us, hl with | [_, _, _, _], _ => rfl
  have F_Board___eq__ := fun_mk (st := s_Board___eq__) l_Board___eq__ c_Board___eq__ k_Board___eq__
  have b_Board___eq__ := F_Board___eq__.binds (ps := P_Board___eq__) fun _ _ _ _ _ _ us hl => match us, hl with | [_, _], _ => rfl
  have F__law_hand := fun_mk (st := s__law_hand) l__law_hand c__law_hand k__law_hand
  have b__law_hand := F__law_hand.binds (ps := P__law_hand) fun _ _ _ _ _ _ us hl => match us, hl with | [_], _ => rfl
  have F__law_take := fun_mk (st := s__law_take) l__law_take c__law_take k__law_take
  have b__law_take := F__law_take.binds (ps := P__law_take) fun _ _ _ _ _ _ us hl => match us, hl with | [_, _], _ => rfl
  have F__law_big := fun_mk (st := s__law_big) l__law_big c__law_big k__law_big
  have b__law_big := F__law_big.binds (ps := P__law_big) fun _ _ _ _ _ _ us hl => match us, hl with | [_, _], _ => rfl
  have F__law_points := fun_mk (st := s__law_points) l__law_points c__law_points k__law_points
  have b__law_points := F__law_points.binds (ps := P__law_points) fun _ _ _ _ _ _ us hl => match us, hl with | [_, _], _ => rfl
  have F__law_mirrors := fun_mk (st := s__law_mirrors) l__law_mirrors c__law_mirrors k__law_mirrors
  have b__law_mirrors := F__law_mirrors.binds (ps := P__law_mirrors) fun _ _ _ _ _ _ us hl => match us, hl with | [_, _, _], _ => rfl
  have F__law_sizes := fun_mk (st := s__law_sizes) l__law_sizes c__law_sizes k__law_sizes
  have b__law_sizes := F__law_sizes.binds (ps := P__law_sizes) fun _ _ _ _ _ _ us hl => match us, hl with | [_, _], _ => rfl
  have F__law_spot := fun_mk (st := s__law_spot) l__law_spot c__law_spot k__law_spot
  have b__law_spot := F__law_spot.binds (ps := P__law_spot) fun _ _ _ _ _ _ us hl => match us, hl with | [_, _, _], _ => rfl
  have F__law_far := fun_mk (st := s__law_far) l__law_far c__law_far k__law_far
  have b__law_far := F__law_far.binds (ps := P__law_far) fun _ _ _ _ _ _ us hl => match us, hl with | [_, _, _], _ => rfl
  have F__law_agree := fun_mk (st := s__law_agree) l__law_agree c__law_agree k__law_agree
  have b__law_agree := F__law_agree.binds (ps := P__law_agree) fun _ _ _ _ _ _ us hl => match us, hl with | [_, _, _], _ => rfl
  have F__law_exchanged := fun_mk (st := s__law_exchanged) l__law_exchanged c__law_exchanged k__law_exchanged
  have b__law_exchanged := F__law_exchanged.binds (ps := P__law_exchanged) fun _ _ _ _ _ _ us hl => match us, hl with | [_, _, _, _, _], _ => rfl
  have F__law_others := fun_mk (st := s__law_others) l__law_others c__law_others k__law_others
  have b__law_others := F__law_others.binds (ps := P__law_others) fun _ _ _ _ _ _ us hl => match us, hl with | [_, _, _, _], _ => rfl
  have F_law := fun_mk (st := s_law) l_law c_law k_law
  have b_law := F_law.binds (ps := P_law) fun _ _ _ _ _ _ us hl => match us, hl with | [_], _ => rfl
  let A : Ad := {
    f_SandError___init__ := f_SandError___init__
    d_SandError___init__ := PySem.W.fnOf "__init__" "SandError.__init__" (defArgs s_SandError___init__) (defBody s_SandError___init__) (defScope s_SandError___init__) .none kV_SandError___init__ dc_SandError___init__ pm_SandError___init__ an_SandError___init__ cd_SandError___init__ ct_SandError___init__
    f_is_inside := f_is_inside
    d_is_inside := PySem.W.fnOf "is_inside" "is_inside" (defArgs s_is_inside) (defBody s_is_inside) (defScope s_is_inside) .none kV_is_inside dc_is_inside pm_is_inside an_is_inside cd_is_inside ct_is_inside
    f_check_mirror := f_check_mirror
    d_check_mirror := PySem.W.fnOf "check_mirror" "check_mirror" (defArgs s_check_mirror) (defBody s_check_mirror) (defScope s_check_mirror) .none kV_check_mirror dc_check_mirror pm_check_mirror an_check_mirror cd_check_mirror ct_check_mirror
    f_kinds_of := f_kinds_of
    d_kinds_of := PySem.W.fnOf "kinds_of" "kinds_of" (defArgs s_kinds_of) (defBody s_kinds_of) (defScope s_kinds_of) .none kV_kinds_of dc_kinds_of pm_kinds_of an_kinds_of cd_kinds_of ct_kinds_of
    f_Board___init__ := f_Board___init__
    d_Board___init__ := PySem.W.fnOf "__init__" "Board.__init__" (defArgs s_Board___init__) (defBody s_Board___init__) (defScope s_Board___init__) .none kV_Board___init__ dc_Board___init__ pm_Board___init__ an_Board___init__ cd_Board___init__ ct_Board___init__
    f_Board___eq__ := f_Board___eq__
    d_Board___eq__ := PySem.W.fnOf "__eq__" "Board.__eq__" (defArgs s_Board___eq__) (defBody s_Board___eq__) (defScope s_Board___eq__) .none kV_Board___eq__ dc_Board___eq__ pm_Board___eq__ an_Board___eq__ cd_Board___eq__ ct_Board___eq__
    f__law_hand := f__law_hand
    d__law_hand := PySem.W.fnOf "_law_hand" "_law_hand" (defArgs s__law_hand) (defBody s__law_hand) (defScope s__law_hand) .none kV__law_hand dc__law_hand pm__law_hand an__law_hand cd__law_hand ct__law_hand
    f__law_take := f__law_take
    d__law_take := PySem.W.fnOf "_law_take" "_law_take" (defArgs s__law_take) (defBody s__law_take) (defScope s__law_take) .none kV__law_take dc__law_take pm__law_take an__law_take cd__law_take ct__law_take
    f__law_big := f__law_big
    d__law_big := PySem.W.fnOf "_law_big" "_law_big" (defArgs s__law_big) (defBody s__law_big) (defScope s__law_big) .none kV__law_big dc__law_big pm__law_big an__law_big cd__law_big ct__law_big
    f__law_points := f__law_points
    d__law_points := PySem.W.fnOf "_law_points" "_law_points" (defArgs s__law_points) (defBody s__law_points) (defScope s__law_points) .none kV__law_points dc__law_points pm__law_points an__law_points cd__law_points ct__law_points
    f__law_mirrors := f__law_mirrors
    d__law_mirrors := PySem.W.fnOf "_law_mirrors" "_law_mirrors" (defArgs s__law_mirrors) (defBody s__law_mirrors) (defScope s__law_mirrors) .none kV__law_mirrors dc__law_mirrors pm__law_mirrors an__law_mirrors cd__law_mirrors ct__law_mirrors
    f__law_sizes := f__law_sizes
    d__law_sizes := PySem.W.fnOf "_law_sizes" "_law_sizes" (defArgs s__law_sizes) (defBody s__law_sizes) (defScope s__law_sizes) .none kV__law_sizes dc__law_sizes pm__law_sizes an__law_sizes cd__law_sizes ct__law_sizes
    f__law_spot := f__law_spot
    d__law_spot := PySem.W.fnOf "_law_spot" "_law_spot" (defArgs s__law_spot) (defBody s__law_spot) (defScope s__law_spot) .none kV__law_spot dc__law_spot pm__law_spot an__law_spot cd__law_spot ct__law_spot
    f__law_far := f__law_far
    d__law_far := PySem.W.fnOf "_law_far" "_law_far" (defArgs s__law_far) (defBody s__law_far) (defScope s__law_far) .none kV__law_far dc__law_far pm__law_far an__law_far cd__law_far ct__law_far
    f__law_agree := f__law_agree
    d__law_agree := PySem.W.fnOf "_law_agree" "_law_agree" (defArgs s__law_agree) (defBody s__law_agree) (defScope s__law_agree) .none kV__law_agree dc__law_agree pm__law_agree an__law_agree cd__law_agree ct__law_agree
    f__law_exchanged := f__law_exchanged
    d__law_exchanged := PySem.W.fnOf "_law_exchanged" "_law_exchanged" (defArgs s__law_exchanged) (defBody s__law_exchanged) (defScope s__law_exchanged) .none kV__law_exchanged dc__law_exchanged pm__law_exchanged an__law_exchanged cd__law_exchanged ct__law_exchanged
    f__law_others := f__law_others
    d__law_others := PySem.W.fnOf "_law_others" "_law_others" (defArgs s__law_others) (defBody s__law_others) (defScope s__law_others) .none kV__law_others dc__law_others pm__law_others an__law_others cd__law_others ct__law_others
    f_law := fa
    d_law := PySem.W.fnOf "law" "law" (defArgs s_law) (defBody s_law) (defScope s_law) .none kV_law dc_law pm_law an_law cd_law ct_law
    C_InvalidSize := C_InvalidSize
    C_InvalidPoint := C_InvalidPoint
    C_InvalidMirror := C_InvalidMirror
    C_Taken := C_Taken
    C_Board := C_Board
    C_InvalidTurn := 0
    C_NoMirror := 0
    c_KINDS := c_KINDS }
  have T : Txt K mg A := {
    F_SandError___init__ := F_SandError___init__, k_SandError___init__ := k_SandError___init__, b_SandError___init__ := b_SandError___init__,
    F_is_inside := F_is_inside, k_is_inside := k_is_inside, b_is_inside := b_is_inside,
    g_is_inside := PySem.W.mg_of X G a_is_inside,
    F_check_mirror := F_check_mirror, k_check_mirror := k_check_mirror, b_check_mirror := b_check_mirror,
    g_check_mirror := PySem.W.mg_of X G a_check_mirror,
    F_kinds_of := F_kinds_of, k_kinds_of := k_kinds_of, b_kinds_of := b_kinds_of,
    g_kinds_of := PySem.W.mg_of X G a_kinds_of,
    F_Board___init__ := F_Board___init__, k_Board___init__ := k_Board___init__, b_Board___init__ := b_Board___init__,
    F_Board___eq__ := F_Board___eq__, k_Board___eq__ := k_Board___eq__, b_Board___eq__ := b_Board___eq__,
    F__law_hand := F__law_hand, k__law_hand := k__law_hand, b__law_hand := b__law_hand,
    g__law_hand := PySem.W.mg_of X G a__law_hand,
    F__law_take := F__law_take, k__law_take := k__law_take, b__law_take := b__law_take,
    g__law_take := PySem.W.mg_of X G a__law_take,
    F__law_big := F__law_big, k__law_big := k__law_big, b__law_big := b__law_big,
    g__law_big := PySem.W.mg_of X G a__law_big,
    F__law_points := F__law_points, k__law_points := k__law_points, b__law_points := b__law_points,
    g__law_points := PySem.W.mg_of X G a__law_points,
    F__law_mirrors := F__law_mirrors, k__law_mirrors := k__law_mirrors, b__law_mirrors := b__law_mirrors,
    g__law_mirrors := PySem.W.mg_of X G a__law_mirrors,
    F__law_sizes := F__law_sizes, k__law_sizes := k__law_sizes, b__law_sizes := b__law_sizes,
    g__law_sizes := PySem.W.mg_of X G a__law_sizes,
    F__law_spot := F__law_spot, k__law_spot := k__law_spot, b__law_spot := b__law_spot,
    g__law_spot := PySem.W.mg_of X G a__law_spot,
    F__law_far := F__law_far, k__law_far := k__law_far, b__law_far := b__law_far,
    g__law_far := PySem.W.mg_of X G a__law_far,
    F__law_agree := F__law_agree, k__law_agree := k__law_agree, b__law_agree := b__law_agree,
    g__law_agree := PySem.W.mg_of X G a__law_agree,
    F__law_exchanged := F__law_exchanged, k__law_exchanged := k__law_exchanged, b__law_exchanged := b__law_exchanged,
    g__law_exchanged := PySem.W.mg_of X G a__law_exchanged,
    F__law_others := F__law_others, k__law_others := k__law_others, b__law_others := b__law_others,
    g__law_others := PySem.W.mg_of X G a__law_others,
    F_law := F_law, k_law := k_law, b_law := b_law,
    g_law := PySem.W.mg_of X G a_law,
    g_InvalidSize := PySem.W.mg_of X G aC_InvalidSize,
    X_InvalidSize := ⟨⟨_, _, _, _, _, _, _, _, _, _, _, _, _, _, _, xL_InvalidSize, rfl⟩, sa_InvalidSize, eC_InvalidSize, tC_InvalidSize, kC_InvalidSize⟩,
    i_InvalidSize := iI_InvalidSize,
    xf_InvalidSize := ⟨ga_InvalidSize, gg_InvalidSize, eC_InvalidSize, hC_InvalidSize⟩,
    te_InvalidSize := exm_ok eC_InvalidSize zC_InvalidSize tC_InvalidSize sC_InvalidSize,
    no_InvalidSize := nv_InvalidSize,
    g_InvalidPoint := PySem.W.mg_of X G aC_InvalidPoint,
    X_InvalidPoint := ⟨⟨_, _, _, _, _, _, _, _, _, _, _, _, _, _, _, xL_InvalidPoint, rfl⟩, sa_InvalidPoint, eC_InvalidPoint, tC_InvalidPoint, kC_InvalidPoint⟩,
    i_InvalidPoint := iI_InvalidPoint,
    xf_InvalidPoint := ⟨ga_InvalidPoint, gg_InvalidPoint, eC_InvalidPoint, hC_InvalidPoint⟩,
    te_InvalidPoint := exm_ok eC_InvalidPoint zC_InvalidPoint tC_InvalidPoint sC_InvalidPoint,
    no_InvalidPoint := nv_InvalidPoint,
    g_InvalidMirror := PySem.W.mg_of X G aC_InvalidMirror,
    X_InvalidMirror := ⟨⟨_, _, _, _, _, _, _, _, _, _, _, _, _, _, _, xL_InvalidMirror, rfl⟩, sa_InvalidMirror, eC_InvalidMirror, tC_InvalidMirror, kC_InvalidMirror⟩,
    i_InvalidMirror := iI_InvalidMirror,
    xf_InvalidMirror := ⟨ga_InvalidMirror, gg_InvalidMirror, eC_InvalidMirror, hC_InvalidMirror⟩,
    te_InvalidMirror := exm_ok eC_InvalidMirror zC_InvalidMirror tC_InvalidMirror sC_InvalidMirror,
    no_InvalidMirror := nv_InvalidMirror,
    g_Taken := PySem.W.mg_of X G aC_Taken,
    X_Taken := ⟨⟨_, _, _, _, _, _, _, _, _, _, _, _, _, _, _, xL_Taken, rfl⟩, sa_Taken, eC_Taken, tC_Taken, kC_Taken⟩,
    i_Taken := iI_Taken,
    xf_Taken := ⟨ga_Taken, gg_Taken, eC_Taken, hC_Taken⟩,
    te_Taken := exm_ok eC_Taken zC_Taken tC_Taken sC_Taken,
    no_Taken := nv_Taken,
    ti_init := tI,
    g_Board := PySem.W.mg_of X G aC_Board,
    M_Board := ⟨mk_Board, a_Board___init__, i_Board___init__, kc_Board⟩,
    cl_Board := ⟨pg_Board, hd_Board, po_Board, st_Board⟩,
    ne_Board := ne_Board, zc_Board := zc_Board, tc_Board := tc_Board,
    i1_Board := i1_Board,
    i2_Board := i2_Board,
    i3_Board := i3_Board,
    i4_Board := i4_Board,
    na_Board_wide := na_Board_wide,
    na_Board_high := na_Board_high,
    na_Board_kinds := na_Board_kinds,
    m_Board___eq__ := ⟨a_Board___eq__, i_Board___eq__, k_Board___eq__⟩,
    g_KINDS := PySem.W.mg_of X G ac_KINDS,
    q_KINDS := fun H => .inr ⟨_, _, _, lc_KINDS, rfl, rfl, (by show 2 ≤ sizeLine; decide), .cons ⟨_, rfl⟩ (.cons ⟨_, rfl⟩ (.nil))⟩,
    n_len := PySem.W.mg_none_of X G z_len,
    n_int := PySem.W.mg_none_of X G z_int,
    n_abs := PySem.W.mg_none_of X G z_abs,
    n_min := PySem.W.mg_none_of X G z_min,
    n_range := PySem.W.mg_none_of X G z_range,
    n_list := PySem.W.mg_none_of X G z_list,
    n_isinstance := PySem.W.mg_none_of X G z_isinstance,
    n_bool := PySem.W.mg_none_of X G z_bool,
    n_str := PySem.W.mg_none_of X G z_str,
    n_tuple := PySem.W.mg_none_of X G z_tuple,
    n_sorted := PySem.W.mg_none_of X G z_sorted }
  exact ⟨A.d_law, fun s v => .of_eq rfl, fun base _ _ => ok_law T⟩
theorem walk {l : PySem.W.OpenLaw} {q : Program} {loose : List Str} {XP : (Str → Option Value) → Heap → Prop} {YP : World → Heap → Prop} {d : DefRec} {K : Params → PySem.W.Frag}
    (hn : l.most = some 63) (hdf : d.params.defaults = []) (hY : ∀ (w : World) (h : Heap), YP w h → (K w.params).In h)
    (F : ∀ (w : World) (mg : Str → Option Value) (fa : Addr) (h : Heap), (K w.params).In h → h.Ns mainGlobals mg → mg d.name = some (.ref fa) → ∃ fd : FuncData,
      (∀ (s : Shared) (u : Value), BindsTo s fd ⟨[u], []⟩ [("_law_script", u)]) ∧ ∀ base : Heap, (K w.params).In base → base.Ns mainGlobals mg → FnOk l.prog w (K w.params) mg base CX0 7 fa fd ["_law_script"] (spLaw (K w.params))) :
    PySem.W.WalkO q loose XP YP l.row.toRowW d [] (fun f vs => PySem.call f vs) :=
  L2.walk_of (n := 63) (k := 7) (x := "_law_script") (CX := fun _ => CX0) (sp := fun w => spLaw (K w.params)) hn (by decide) hdf ⟨rfl, by decide, by decide⟩ hY F (fun _ _ a ns hl _ hS => ⟨a, ns, rfl, hS, hl, fun _ => rfl⟩) fun _ _ _ _ _ z => z
end TK
open PySem PySem.W PyProof.Rows
set_option maxRecDepth 100000 in
set_option maxHeartbeats 0 in
theorem PySem.Challenge.cw_sandthreads_k10_equal_boards_holds : PySem.Challenge.rw_sandthreads_k10_equal_boards.Holds := by
  w_on; o_law; k_head; (case hw => w_witness2)
  k_fill
  refine TK.walk (l := PySem.Challenge.rw_sandthreads_k10_equal_boards) rfl rfl (fun w h Y => PySem.W.kIn_of Y) ?F
  case F =>
    intro w mg fa h KX G hmg
    refine' TK.all_mk KX G hmg ?aC_InvalidSize ?aC_InvalidPoint ?aC_InvalidMirror ?aC_Taken ?aC_Board ?xL_InvalidSize ?sa_InvalidSize ?ga_InvalidSize ?gg_InvalidSize ?nv_InvalidSize ?iI_InvalidSize ?kC_InvalidSize ?eC_InvalidSize ?tC_InvalidSize ?hC_InvalidSize ?zC_InvalidSize ?sC_InvalidSize ?xL_InvalidPoint ?sa_InvalidPoint ?ga_InvalidPoint ?gg_InvalidPoint ?nv_InvalidPoint ?iI_InvalidPoint ?kC_InvalidPoint ?eC_InvalidPoint ?tC_InvalidPoint ?hC_InvalidPoint ?zC_InvalidPoint ?sC_InvalidPoint ?xL_InvalidMirror ?sa_InvalidMirror ?ga_InvalidMirror ?gg_InvalidMirror ?nv_InvalidMirror ?iI_InvalidMirror ?kC_InvalidMirror ?eC_InvalidMirror ?tC_InvalidMirror ?hC_InvalidMirror ?zC_InvalidMirror ?sC_InvalidMirror ?xL_Taken ?sa_Taken ?ga_Taken ?gg_Taken ?nv_Taken ?iI_Taken ?kC_Taken ?eC_Taken ?tC_Taken ?hC_Taken ?zC_Taken ?sC_Taken ?tI ?l_SandError___init__ ?c_SandError___init__ ?k_SandError___init__ ?a_is_inside ?l_is_inside ?c_is_inside ?k_is_inside ?a_check_mirror ?l_check_mirror ?c_check_mirror ?k_check_mirror ?a_kinds_of ?l_kinds_of ?c_kinds_of ?k_kinds_of ?a_Board___init__ ?i_Board___init__ ?l_Board___init__ ?c_Board___init__ ?k_Board___init__ ?a_Board___eq__ ?i_Board___eq__ ?l_Board___eq__ ?c_Board___eq__ ?k_Board___eq__ ?a__law_hand ?l__law_hand ?c__law_hand ?k__law_hand ?a__law_take ?l__law_take ?c__law_take ?k__law_take ?a__law_big ?l__law_big ?c__law_big ?k__law_big ?a__law_points ?l__law_points ?c__law_points ?k__law_points ?a__law_mirrors ?l__law_mirrors ?c__law_mirrors ?k__law_mirrors ?a__law_sizes ?l__law_sizes ?c__law_sizes ?k__law_sizes ?a__law_spot ?l__law_spot ?c__law_spot ?k__law_spot ?a__law_far ?l__law_far ?c__law_far ?k__law_far ?a__law_agree ?l__law_agree ?c__law_agree ?k__law_agree ?a__law_exchanged ?l__law_exchanged ?c__law_exchanged ?k__law_exchanged ?a__law_others ?l__law_others ?c__law_others ?k__law_others ?a_law ?l_law ?c_law ?k_law ?pg_Board ?hd_Board ?po_Board ?st_Board ?mk_Board ?kc_Board ?ne_Board ?zc_Board ?tc_Board ?i1_Board ?i2_Board ?i3_Board ?i4_Board ?na_Board_wide ?na_Board_high ?na_Board_kinds ?ac_KINDS ?lc_KINDS ?z_len ?z_int ?z_abs ?z_min ?z_range ?z_list ?z_isinstance ?z_bool ?z_str ?z_tuple ?z_sorted
    (case aC_InvalidSize => k_is)
    (case aC_InvalidPoint => k_is)
    (case aC_InvalidMirror => k_is)
    (case aC_Taken => k_is)
    (case aC_Board => k_is)
    (case xL_InvalidSize => k_is)
    (case sa_InvalidSize => k_is)
    (case ga_InvalidSize => k_is)
    (case gg_InvalidSize => k_is)
    (case nv_InvalidSize => k_is)
    (case iI_InvalidSize => k_is)
    (case kC_InvalidSize => k_is)
    (case eC_InvalidSize => k_is)
    (case tC_InvalidSize => k_is)
    (case hC_InvalidSize => k_is)
    (case zC_InvalidSize => k_is)
    (case sC_InvalidSize => first | rfl | k_is)
    (case xL_InvalidPoint => k_is)
    (case sa_InvalidPoint => k_is)
    (case ga_InvalidPoint => k_is)
    (case gg_InvalidPoint => k_is)
    (case nv_InvalidPoint => k_is)
    (case iI_InvalidPoint => k_is)
    (case kC_InvalidPoint => k_is)
    (case eC_InvalidPoint => k_is)
    (case tC_InvalidPoint => k_is)
    (case hC_InvalidPoint => k_is)
    (case zC_InvalidPoint => k_is)
    (case sC_InvalidPoint => first | rfl | k_is)
    (case xL_InvalidMirror => k_is)
    (case sa_InvalidMirror => k_is)
    (case ga_InvalidMirror => k_is)
    (case gg_InvalidMirror => k_is)
    (case nv_InvalidMirror => k_is)
    (case iI_InvalidMirror => k_is)
    (case kC_InvalidMirror => k_is)
    (case eC_InvalidMirror => k_is)
    (case tC_InvalidMirror => k_is)
    (case hC_InvalidMirror => k_is)
    (case zC_InvalidMirror => k_is)
    (case sC_InvalidMirror => first | rfl | k_is)
    (case xL_Taken => k_is)
    (case sa_Taken => k_is)
    (case ga_Taken => k_is)
    (case gg_Taken => k_is)
    (case nv_Taken => k_is)
    (case iI_Taken => k_is)
    (case kC_Taken => k_is)
    (case eC_Taken => k_is)
    (case tC_Taken => k_is)
    (case hC_Taken => k_is)
    (case zC_Taken => k_is)
    (case sC_Taken => first | rfl | k_is)
    (case tI => k_is)
    (case l_SandError___init__ => k_is)
    (case c_SandError___init__ => k_is)
    (case k_SandError___init__ => k_is)
    (case a_is_inside => k_is)
    (case l_is_inside => k_is)
    (case c_is_inside => k_is)
    (case k_is_inside => k_is)
    (case a_check_mirror => k_is)
    (case l_check_mirror => k_is)
    (case c_check_mirror => k_is)
    (case k_check_mirror => k_is)
    (case a_kinds_of => k_is)
    (case l_kinds_of => k_is)
    (case c_kinds_of => k_is)
    (case k_kinds_of => k_is)
    (case a_Board___init__ => k_is)
    (case i_Board___init__ => k_is)
    (case l_Board___init__ => k_is)
    (case c_Board___init__ => k_is)
    (case k_Board___init__ => k_is)
    (case a_Board___eq__ => k_is)
    (case i_Board___eq__ => k_is)
    (case l_Board___eq__ => k_is)
    (case c_Board___eq__ => k_is)
    (case k_Board___eq__ => k_is)
    (case a__law_hand => k_is)
    (case l__law_hand => k_is)
    (case c__law_hand => k_is)
    (case k__law_hand => k_is)
    (case a__law_take => k_is)
    (case l__law_take => k_is)
    (case c__law_take => k_is)
    (case k__law_take => k_is)
    (case a__law_big => k_is)
    (case l__law_big => k_is)
    (case c__law_big => k_is)
    (case k__law_big => k_is)
    (case a__law_points => k_is)
    (case l__law_points => k_is)
    (case c__law_points => k_is)
    (case k__law_points => k_is)
    (case a__law_mirrors => k_is)
    (case l__law_mirrors => k_is)
    (case c__law_mirrors => k_is)
    (case k__law_mirrors => k_is)
    (case a__law_sizes => k_is)
    (case l__law_sizes => k_is)
    (case c__law_sizes => k_is)
    (case k__law_sizes => k_is)
    (case a__law_spot => k_is)
    (case l__law_spot => k_is)
    (case c__law_spot => k_is)
    (case k__law_spot => k_is)
    (case a__law_far => k_is)
    (case l__law_far => k_is)
    (case c__law_far => k_is)
    (case k__law_far => k_is)
    (case a__law_agree => k_is)
    (case l__law_agree => k_is)
    (case c__law_agree => k_is)
    (case k__law_agree => k_is)
    (case a__law_exchanged => k_is)
    (case l__law_exchanged => k_is)
    (case c__law_exchanged => k_is)
    (case k__law_exchanged => k_is)
    (case a__law_others => k_is)
    (case l__law_others => k_is)
    (case c__law_others => k_is)
    (case k__law_others => k_is)
    (case a_law => k_is)
    (case l_law => k_is)
    (case c_law => k_is)
    (case k_law => k_is)
    (case pg_Board => k_is)
    (case hd_Board => k_is)
    (case po_Board => k_is)
    (case st_Board => k_is)
    (case mk_Board => k_is)
    (case kc_Board => k_is)
    (case ne_Board => k_is)
    (case zc_Board => k_is)
    (case tc_Board => k_is)
    (case i1_Board => k_is)
    (case i2_Board => k_is)
    (case i3_Board => k_is)
    (case i4_Board => k_is)
    (case na_Board_wide => k_is)
    (case na_Board_high => k_is)
    (case na_Board_kinds => k_is)
    (case ac_KINDS => k_is)
    (case lc_KINDS => k_is)
    (case z_len => k_is)
    (case z_int => k_is)
    (case z_abs => k_is)
    (case z_min => k_is)
    (case z_range => k_is)
    (case z_list => k_is)
    (case z_isinstance => k_is)
    (case z_bool => k_is)
    (case z_str => k_is)
    (case z_tuple => k_is)
    (case z_sorted => k_is)
